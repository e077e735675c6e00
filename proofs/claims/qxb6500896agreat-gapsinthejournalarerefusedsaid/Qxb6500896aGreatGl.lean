import Derived.Test.Qxb6500896aGreatProg
import Derived.Test.Qxb6500896aGreatShTr
namespace Go.Proofs.Qxb6500896aGreat
open Go.Sh Go.RowKit
set_option linter.unusedVariables false
set_option maxRecDepth 100000

/-! ### function 10 : e2e.enginelaw.GapsInTheJournalAreRefused -/
def s10_R (K : Value → World → Prop) (s : Nat → Value) (w : World) : Prop := retv Tryz.prog s Tryz.f10.results.toList (fun vs => K (pack vs) w) w
def s10_p1 (K : Value → World → Prop) (w : World) : Prop :=
  K (.bool true) w
def s10_p1_den (K : Value → World → Prop) : (Nat → Value) → World → Prop := denL Tryz.prog [(cd (Tryz.f10.body.getD .skip) [1, 1, 1, 1, 1, 1, 1, 0]), (cd (Tryz.f10.body.getD .skip) [1, 1, 1, 1, 1, 1, 1, 1])] (fun _ _ => False) (fun i => (fun _ _ => False)) (s10_R K)
theorem s10_p1_ok (K : Value → World → Prop) (s : Nat → Value) (w : World) (h : s10_p1 K w) : Tr (s10_p1_den K s w) :=
  tr_simple (P := Tryz.prog) (codes := [(cd (Tryz.f10.body.getD .skip) [1, 1, 1, 1, 1, 1, 1, 0]), (cd (Tryz.f10.body.getD .skip) [1, 1, 1, 1, 1, 1, 1, 1])]) (N := (fun _ _ => False)) (N' := (fun _ _ => False)) (X := (fun i => (fun _ _ => False))) (X' := (fun i => (fun _ _ => False))) (R := s10_R K) (s := s) (w := w) (p := s10_p1 K w) (q := s10_p1_den K s w) tr_id (fun i => tr_id) (by kernel_rfl) (by kernel_rfl) @h
def s10_p2 (K : Value → World → Prop) (t11 : Value) (w : World) : Prop :=
  nck t11 (fun t121 w =>
  fd 5 t121 (fun t122 w =>
  ld1 t122 (fun t123 w =>
  lnS t123 (fun t124 w =>
  nck t11 (fun t125 w =>
  fd 6 t125 (fun t126 w =>
  st1 t126 t124 (fun w =>
  cl Tryz.prog 21 #[] (fun t128 w =>
  cl Tryz.prog 38 #[t128, t11] (fun t130 w =>
  exq t130 0 (fun t131 w =>
  exq t130 1 (fun t132 w =>
  boP .neq t131 (.pointer none) (fun t134 w =>
  gd t134 false (fun K w => K t132 w) (fun t136 w =>
  gd t134 false (cl Tryz.prog 51 #[t136]) (fun t137 w =>
  gd t134 false (boI .neq t137 (.int .i64 20)) (fun t138 w =>
  pk t134 (.bool true) t138 (fun t139 w =>
  ifb t139
  (K (.bool false) w)
  (s10_p1 K w)) w) w) w) w) w) w) w) w) w) w) w) w) w) w) w) w
def s10_p2_den (K : Value → World → Prop) : (Nat → Value) → World → Prop := denL Tryz.prog [(cd (Tryz.f10.body.getD .skip) [1, 1, 1, 1, 1, 1, 0, 1, 0, 1, 1, 0]), (cd (Tryz.f10.body.getD .skip) [1, 1, 1, 1, 1, 1, 0, 1, 0, 1, 1, 1, 0]), (cd (Tryz.f10.body.getD .skip) [1, 1, 1, 1, 1, 1, 0, 1, 0, 1, 1, 1, 1, 0]), (cd (Tryz.f10.body.getD .skip) [1, 1, 1, 1, 1, 1, 0, 1, 0, 1, 1, 1, 1, 1])] (s10_p1_den K) (fun i => (fun _ _ => False)) (s10_R K)
theorem s10_p2_ok (K : Value → World → Prop) (s : Nat → Value) (w : World) (h : s10_p2 K (s 11) w) : Tr (s10_p2_den K s w) :=
  tr_simple (P := Tryz.prog) (codes := [(cd (Tryz.f10.body.getD .skip) [1, 1, 1, 1, 1, 1, 0, 1, 0, 1, 1, 0]), (cd (Tryz.f10.body.getD .skip) [1, 1, 1, 1, 1, 1, 0, 1, 0, 1, 1, 1, 0]), (cd (Tryz.f10.body.getD .skip) [1, 1, 1, 1, 1, 1, 0, 1, 0, 1, 1, 1, 1, 0]), (cd (Tryz.f10.body.getD .skip) [1, 1, 1, 1, 1, 1, 0, 1, 0, 1, 1, 1, 1, 1])]) (N := (fun s w => s10_p1 K w)) (N' := (s10_p1_den K)) (X := (fun i => (fun _ _ => False))) (X' := (fun i => (fun _ _ => False))) (R := s10_R K) (s := s) (w := w) (p := s10_p2 K (s 11) w) (q := s10_p2_den K s w) (fun s w h => s10_p1_ok K s w @h) (fun i => tr_id) (by kernel_rfl) (by kernel_rfl) @h
def s10_p3_d (K : Value → World → Prop) (t11 t12 : Value) (w0 w : World) : Prop :=
  nck t11 (fun t104 _ =>
  fd 5 t104 (fun t105 _ =>
  ld1 t105 (fun t106 _ =>
  boI .add t12 (.int .i64 1) (fun t108 _ =>
  sls 1 t106 none (some t108) (fun t109 _ =>
  nck t11 (fun t111 _ =>
  fd 5 t111 (fun t112 _ =>
  ld1 t112 (fun t113 _ =>
  sls 1 t113 (some t12) none (fun t115 _ =>
  nck t11 (fun t117 _ =>
  fd 5 t117 (fun t118 _ =>
  apq 37 [(.slice none 0 0)] 24 t109 t115 (fun t116 w =>
  st1 t118 t116 (fun w =>
  s10_p2 K t11 w) w) w) w0) w0) w0) w0) w0) w0) w0) w0) w0) w0) w0
def s10_p3 (K : Value → World → Prop) (t11 t12 : Value) (w : World) : Prop := s10_p3_d K t11 t12 (drw w) (drw w)
def s10_p3_den (K : Value → World → Prop) : (Nat → Value) → World → Prop := denL Tryz.prog [(cd (Tryz.f10.body.getD .skip) [1, 1, 1, 1, 1, 1, 0, 1, 0, 1, 0])] (s10_p2_den K) (fun i => (fun _ _ => False)) (s10_R K)
theorem s10_p3_ok (K : Value → World → Prop) (s : Nat → Value) (w : World) (h : s10_p3 K (s 11) (s 12) w) : Tr (s10_p3_den K s w) :=
  tr_draw (P := Tryz.prog) (ops := (ro (cd (Tryz.f10.body.getD .skip) [1, 1, 1, 1, 1, 1, 0, 1, 0, 1, 0]))) (ms := [0, 0, 2, 6, 14, 0, 32, 126, 0, 256, 768, 1792, 0, 7936, 16382, 32767, 65535, 131071]) (cs := [0, 1, 2, 3, 4, 5, 6, 7, 8, 9, 10, 11, 12, 13, 15, 16]) (N := (fun s w => s10_p2 K (s 11) w)) (N' := (s10_p2_den K)) (s := s) (w := w) (p := s10_p3 K (s 11) (s 12) w) (q := s10_p3_den K s w) (by kernel_rfl) (by kernel_rfl) (fun s w h => s10_p2_ok K s w @h) (by kernel_rfl) (by kernel_rfl) @h
def s10_p4_d (K : Value → World → Prop) (t0 t3 t6 : Value) (w0 w : World) : Prop :=
  nck t3 (fun t94 _ =>
  fd 0 t94 (fun t95 _ =>
  ld1 t95 (fun t96 _ =>
  lnS t0 (fun t99 _ =>
  boI .rem t99 t6 (fun t101 _ =>
  cl Tryz.prog 39 #[t96] (fun t97 w =>
  Below w0.heap.size w0 w ∧
  Below w0.heap.size w0 w ∧
  s10_p3 K t97 t101 w) w) w0) w0) w0) w0) w0
def s10_p4 (K : Value → World → Prop) (t0 t3 t6 : Value) (w : World) : Prop := s10_p4_d K t0 t3 t6 (drw w) (drw w)
def s10_p4_den (K : Value → World → Prop) : (Nat → Value) → World → Prop := denL Tryz.prog [(cd (Tryz.f10.body.getD .skip) [1, 1, 1, 1, 1, 1, 0, 1, 0, 0])] (s10_p3_den K) (fun i => (fun _ _ => False)) (s10_R K)
theorem s10_p4_ok (K : Value → World → Prop) (s : Nat → Value) (w : World) (h : s10_p4 K (s 0) (s 3) (s 6) w) : Tr (s10_p4_den K s w) :=
  tr_draw (P := Tryz.prog) (ops := (ro (cd (Tryz.f10.body.getD .skip) [1, 1, 1, 1, 1, 1, 0, 1, 0, 0]))) (ms := [0, 1, 3, 7, 15, 0, 32, 0, 224, 31, 1023]) (cs := [0, 1, 2, 3, 5, 6, 7, 8, 10]) (N := (fun s w => s10_p3 K (s 11) (s 12) w)) (N' := (s10_p3_den K)) (s := s) (w := w) (p := s10_p4 K (s 0) (s 3) (s 6) w) (q := s10_p4_den K s w) (by kernel_rfl) (by kernel_rfl) (fun s w h => s10_p3_ok K s w @h) (by kernel_rfl) (by kernel_rfl) @h
def s10_p5 (K : Value → World → Prop) (t0 t3 t6 t92 : Value) (w : World) : Prop :=
  ifb t92
  (s10_p4 K t0 t3 t6 w)
  (s10_p1 K w)
def s10_p5_den (K : Value → World → Prop) : (Nat → Value) → World → Prop := fun s w => ifb (ev s (.tmp 92)) ((s10_p4_den K) s w) ((s10_p1_den K) s w)
theorem s10_p5_ok (K : Value → World → Prop) (s : Nat → Value) (w : World) (h : s10_p5 K (s 0) (s 3) (s 6) (s 92) w) : Tr (s10_p5_den K s w) :=
  tr_cond (v := ev s (.tmp 92)) (a := (fun s w => s10_p4 K (s 0) (s 3) (s 6) w) s w) (a' := (s10_p4_den K) s w) (b := (fun s w => s10_p1 K w) s w) (b' := (s10_p1_den K) s w) (p := s10_p5 K (s 0) (s 3) (s 6) (s 92) w) (q := s10_p5_den K s w) ((fun s w h => s10_p4_ok K s w @h) s w) ((fun s w h => s10_p1_ok K s w @h) s w) (by kernel_rfl) (by kernel_rfl) @h
def s10_p6 (K : Value → World → Prop) (t0 t3 t6 : Value) (w : World) : Prop :=
  boI .geq t6 (.int .i64 1) (fun t92 w =>
  s10_p5 K t0 t3 t6 t92 w) w
def s10_p6_den (K : Value → World → Prop) : (Nat → Value) → World → Prop := denL Tryz.prog [(cd (Tryz.f10.body.getD .skip) [1, 1, 1, 1, 1, 1, 0, 0])] (s10_p5_den K) (fun i => (fun _ _ => False)) (s10_R K)
theorem s10_p6_ok (K : Value → World → Prop) (s : Nat → Value) (w : World) (h : s10_p6 K (s 0) (s 3) (s 6) w) : Tr (s10_p6_den K s w) :=
  tr_simple (P := Tryz.prog) (codes := [(cd (Tryz.f10.body.getD .skip) [1, 1, 1, 1, 1, 1, 0, 0])]) (N := (fun s w => s10_p5 K (s 0) (s 3) (s 6) (s 92) w)) (N' := (s10_p5_den K)) (X := (fun i => (fun _ _ => False))) (X' := (fun i => (fun _ _ => False))) (R := s10_R K) (s := s) (w := w) (p := s10_p6 K (s 0) (s 3) (s 6) w) (q := s10_p6_den K s w) (fun s w h => s10_p5_ok K s w @h) (fun i => tr_id) (by kernel_rfl) (by kernel_rfl) @h
def s10_p7 (K : Value → World → Prop) (t0 t3 t6 t7 : Value) (w : World) : Prop :=
  nck t7 (fun t72 w =>
  fd 5 t72 (fun t73 w =>
  ld1 t73 (fun t74 w =>
  lnS t74 (fun t75 w =>
  nck t7 (fun t76 w =>
  fd 6 t76 (fun t77 w =>
  st1 t77 t75 (fun w =>
  cl Tryz.prog 21 #[] (fun t79 w =>
  cl Tryz.prog 38 #[t79, t7] (fun t81 w =>
  exq t81 0 (fun t82 w =>
  exq t81 1 (fun t83 w =>
  boP .neq t82 (.pointer none) (fun t85 w =>
  gd t85 false (fun K w => K t83 w) (fun t87 w =>
  gd t85 false (cl Tryz.prog 51 #[t87]) (fun t88 w =>
  gd t85 false (boI .neq t88 (.int .i64 20)) (fun t89 w =>
  pk t85 (.bool true) t89 (fun t90 w =>
  ifb t90
  (K (.bool false) w)
  (s10_p6 K t0 t3 t6 w)) w) w) w) w) w) w) w) w) w) w) w) w) w) w) w) w
def s10_p7_den (K : Value → World → Prop) : (Nat → Value) → World → Prop := denL Tryz.prog [(cd (Tryz.f10.body.getD .skip) [1, 1, 1, 1, 1, 0, 1, 0, 1, 1, 0]), (cd (Tryz.f10.body.getD .skip) [1, 1, 1, 1, 1, 0, 1, 0, 1, 1, 1, 0]), (cd (Tryz.f10.body.getD .skip) [1, 1, 1, 1, 1, 0, 1, 0, 1, 1, 1, 1, 0]), (cd (Tryz.f10.body.getD .skip) [1, 1, 1, 1, 1, 0, 1, 0, 1, 1, 1, 1, 1])] (s10_p6_den K) (fun i => (fun _ _ => False)) (s10_R K)
theorem s10_p7_ok (K : Value → World → Prop) (s : Nat → Value) (w : World) (h : s10_p7 K (s 0) (s 3) (s 6) (s 7) w) : Tr (s10_p7_den K s w) :=
  tr_simple (P := Tryz.prog) (codes := [(cd (Tryz.f10.body.getD .skip) [1, 1, 1, 1, 1, 0, 1, 0, 1, 1, 0]), (cd (Tryz.f10.body.getD .skip) [1, 1, 1, 1, 1, 0, 1, 0, 1, 1, 1, 0]), (cd (Tryz.f10.body.getD .skip) [1, 1, 1, 1, 1, 0, 1, 0, 1, 1, 1, 1, 0]), (cd (Tryz.f10.body.getD .skip) [1, 1, 1, 1, 1, 0, 1, 0, 1, 1, 1, 1, 1])]) (N := (fun s w => s10_p6 K (s 0) (s 3) (s 6) w)) (N' := (s10_p6_den K)) (X := (fun i => (fun _ _ => False))) (X' := (fun i => (fun _ _ => False))) (R := s10_R K) (s := s) (w := w) (p := s10_p7 K (s 0) (s 3) (s 6) (s 7) w) (q := s10_p7_den K s w) (fun s w h => s10_p6_ok K s w @h) (fun i => tr_id) (by kernel_rfl) (by kernel_rfl) @h
def s10_p8_d (K : Value → World → Prop) (t0 t3 t6 t7 t8 : Value) (w0 w : World) : Prop :=
  nck t7 (fun t55 _ =>
  fd 5 t55 (fun t56 _ =>
  ld1 t56 (fun t57 _ =>
  sls 1 t57 none (some t8) (fun t59 _ =>
  nck t7 (fun t61 _ =>
  fd 5 t61 (fun t62 _ =>
  ld1 t62 (fun t63 _ =>
  boI .add t8 (.int .i64 1) (fun t65 _ =>
  sls 1 t63 (some t65) none (fun t66 _ =>
  nck t7 (fun t68 _ =>
  fd 5 t68 (fun t69 _ =>
  apq 37 [(.slice none 0 0)] 24 t59 t66 (fun t67 w =>
  st1 t69 t67 (fun w =>
  s10_p7 K t0 t3 t6 t7 w) w) w) w0) w0) w0) w0) w0) w0) w0) w0) w0) w0) w0
def s10_p8 (K : Value → World → Prop) (t0 t3 t6 t7 t8 : Value) (w : World) : Prop := s10_p8_d K t0 t3 t6 t7 t8 (drw w) (drw w)
def s10_p8_den (K : Value → World → Prop) : (Nat → Value) → World → Prop := denL Tryz.prog [(cd (Tryz.f10.body.getD .skip) [1, 1, 1, 1, 1, 0, 1, 0, 1, 0])] (s10_p7_den K) (fun i => (fun _ _ => False)) (s10_R K)
theorem s10_p8_ok (K : Value → World → Prop) (s : Nat → Value) (w : World) (h : s10_p8 K (s 0) (s 3) (s 6) (s 7) (s 8) w) : Tr (s10_p8_den K s w) :=
  tr_draw (P := Tryz.prog) (ops := (ro (cd (Tryz.f10.body.getD .skip) [1, 1, 1, 1, 1, 0, 1, 0, 1, 0]))) (ms := [0, 0, 2, 6, 14, 0, 62, 0, 128, 384, 896, 0, 2048, 8064, 16382, 32767, 65535, 131071]) (cs := [0, 1, 2, 3, 4, 5, 6, 7, 8, 9, 10, 11, 12, 13, 15, 16]) (N := (fun s w => s10_p7 K (s 0) (s 3) (s 6) (s 7) w)) (N' := (s10_p7_den K)) (s := s) (w := w) (p := s10_p8 K (s 0) (s 3) (s 6) (s 7) (s 8) w) (q := s10_p8_den K s w) (by kernel_rfl) (by kernel_rfl) (fun s w h => s10_p7_ok K s w @h) (by kernel_rfl) (by kernel_rfl) @h
def s10_p9_d (K : Value → World → Prop) (t0 t3 t6 : Value) (w0 w : World) : Prop :=
  nck t3 (fun t44 _ =>
  fd 0 t44 (fun t45 _ =>
  ld1 t45 (fun t46 _ =>
  lnS t0 (fun t49 _ =>
  boI .sub t6 (.int .i64 1) (fun t51 _ =>
  boI .rem t49 t51 (fun t52 _ =>
  cl Tryz.prog 39 #[t46] (fun t47 w =>
  Below w0.heap.size w0 w ∧
  Below w0.heap.size w0 w ∧
  s10_p8 K t0 t3 t6 t47 t52 w) w) w0) w0) w0) w0) w0) w0
def s10_p9 (K : Value → World → Prop) (t0 t3 t6 : Value) (w : World) : Prop := s10_p9_d K t0 t3 t6 (drw w) (drw w)
def s10_p9_den (K : Value → World → Prop) : (Nat → Value) → World → Prop := denL Tryz.prog [(cd (Tryz.f10.body.getD .skip) [1, 1, 1, 1, 1, 0, 1, 0, 0])] (s10_p8_den K) (fun i => (fun _ _ => False)) (s10_R K)
theorem s10_p9_ok (K : Value → World → Prop) (s : Nat → Value) (w : World) (h : s10_p9 K (s 0) (s 3) (s 6) w) : Tr (s10_p9_den K s w) :=
  tr_draw (P := Tryz.prog) (ops := (ro (cd (Tryz.f10.body.getD .skip) [1, 1, 1, 1, 1, 0, 1, 0, 0]))) (ms := [0, 1, 3, 7, 15, 0, 32, 0, 128, 480, 31, 2047]) (cs := [0, 1, 2, 3, 5, 6, 7, 8, 9, 11]) (N := (fun s w => s10_p8 K (s 0) (s 3) (s 6) (s 7) (s 8) w)) (N' := (s10_p8_den K)) (s := s) (w := w) (p := s10_p9 K (s 0) (s 3) (s 6) w) (q := s10_p9_den K s w) (by kernel_rfl) (by kernel_rfl) (fun s w h => s10_p8_ok K s w @h) (by kernel_rfl) (by kernel_rfl) @h
def s10_p10 (K : Value → World → Prop) (t0 t3 t6 t42 : Value) (w : World) : Prop :=
  ifb t42
  (s10_p9 K t0 t3 t6 w)
  (s10_p6 K t0 t3 t6 w)
def s10_p10_den (K : Value → World → Prop) : (Nat → Value) → World → Prop := fun s w => ifb (ev s (.tmp 42)) ((s10_p9_den K) s w) ((s10_p6_den K) s w)
theorem s10_p10_ok (K : Value → World → Prop) (s : Nat → Value) (w : World) (h : s10_p10 K (s 0) (s 3) (s 6) (s 42) w) : Tr (s10_p10_den K s w) :=
  tr_cond (v := ev s (.tmp 42)) (a := (fun s w => s10_p9 K (s 0) (s 3) (s 6) w) s w) (a' := (s10_p9_den K) s w) (b := (fun s w => s10_p6 K (s 0) (s 3) (s 6) w) s w) (b' := (s10_p6_den K) s w) (p := s10_p10 K (s 0) (s 3) (s 6) (s 42) w) (q := s10_p10_den K s w) ((fun s w h => s10_p9_ok K s w @h) s w) ((fun s w h => s10_p6_ok K s w @h) s w) (by kernel_rfl) (by kernel_rfl) @h
def s10_p11 (K : Value → World → Prop) (t0 t3 : Value) (w : World) : Prop :=
  nck t3 (fun t34 w =>
  fd 0 t34 (fun t35 w =>
  ld1 t35 (fun t36 w =>
  nck t36 (fun t37 w =>
  fd 5 t37 (fun t38 w =>
  ld1 t38 (fun t39 w =>
  lnS t39 (fun t40 w =>
  boI .geq t40 (.int .i64 2) (fun t42 w =>
  s10_p10 K t0 t3 t40 t42 w) w) w) w) w) w) w) w) w
def s10_p11_den (K : Value → World → Prop) : (Nat → Value) → World → Prop := denL Tryz.prog [(cd (Tryz.f10.body.getD .skip) [1, 1, 1, 1, 0]), (cd (Tryz.f10.body.getD .skip) [1, 1, 1, 1, 1, 0, 0])] (s10_p10_den K) (fun i => (fun _ _ => False)) (s10_R K)
theorem s10_p11_ok (K : Value → World → Prop) (s : Nat → Value) (w : World) (h : s10_p11 K (s 0) (s 3) w) : Tr (s10_p11_den K s w) :=
  tr_simple (P := Tryz.prog) (codes := [(cd (Tryz.f10.body.getD .skip) [1, 1, 1, 1, 0]), (cd (Tryz.f10.body.getD .skip) [1, 1, 1, 1, 1, 0, 0])]) (N := (fun s w => s10_p10 K (s 0) (s 3) (s 6) (s 42) w)) (N' := (s10_p10_den K)) (X := (fun i => (fun _ _ => False))) (X' := (fun i => (fun _ _ => False))) (R := s10_R K) (s := s) (w := w) (p := s10_p11 K (s 0) (s 3) w) (q := s10_p11_den K s w) (fun s w h => s10_p10_ok K s w @h) (fun i => tr_id) (by kernel_rfl) (by kernel_rfl) @h
def s10_p12 (K : Value → World → Prop) (B1 : List Value → World → Prop) (t0 t3 t20 t21 t22 : Value) (w : World) : Prop :=
  boI .add t22 (.int .i64 1) (fun t32 w =>
  B1 [t0, t3, t20, t21, t32] w) w
def s10_p12_den (K : Value → World → Prop) (M1 : (Nat → Value) → World → Prop) : (Nat → Value) → World → Prop := denL Tryz.prog [(cd (Tryz.f10.body.getD .skip) [1, 1, 1, 0, 1, 0, 0, 1, 1, 1])] M1 (fun i => (bif Nat.beq i 0 then (s10_p11_den K) else (fun _ _ => False))) (s10_R K)
theorem s10_p12_ok (K : Value → World → Prop) (B1 : List Value → World → Prop) (s : Nat → Value) (w : World) (h : s10_p12 K B1 (s 0) (s 3) (s 20) (s 21) (s 22) w) : Tr (s10_p12_den K (fun s w => B1 [s 0, s 3, s 20, s 21, s 22] w) s w) :=
  tr_simple (P := Tryz.prog) (codes := [(cd (Tryz.f10.body.getD .skip) [1, 1, 1, 0, 1, 0, 0, 1, 1, 1])]) (N := (fun s w => B1 [s 0, s 3, s 20, s 21, s 22] w)) (N' := (fun s w => B1 [s 0, s 3, s 20, s 21, s 22] w)) (X := (fun i => (bif Nat.beq i 0 then (fun s w => s10_p11 K (s 0) (s 3) w) else (fun _ _ => False)))) (X' := (fun i => (bif Nat.beq i 0 then (s10_p11_den K) else (fun _ _ => False)))) (R := s10_R K) (s := s) (w := w) (p := s10_p12 K B1 (s 0) (s 3) (s 20) (s 21) (s 22) w) (q := s10_p12_den K (fun s w => B1 [s 0, s 3, s 20, s 21, s 22] w) s w) tr_id (fun i => (tr_bif (fun s w h => s10_p11_ok K s w @h) tr_id)) (by kernel_rfl) (by kernel_rfl) @h
def s10_p13 (K : Value → World → Prop) (B1 : List Value → World → Prop) (t0 t3 t20 t21 t22 : Value) (w : World) : Prop :=
  boI .lss t22 t21 (fun t23 w =>
  ifb t23
  (ixs 4 t20 t22 (fun t24 w =>
  ldn 4 t24 (fun t25 w =>
  nw 39 #[(.int .i64 0), (.slice none 0 0), (.int .i64 0), (.int .i64 0)] (fun t5 w =>
  stn 4 t5 t25 (fun w =>
  ldn 4 t5 (fun t26 w =>
  cl Tryz.prog 22 #[t26] (fun t27 w =>
  ifb t27
  (fd 1 t5 (fun t29 w =>
  ld1 t29 (fun t30 w =>
  cl Tryz.prog 24 #[t3, t30] (fun t31 w =>
  s10_p12 K B1 t0 t3 t20 t21 t22 w) w) w) w)
  (s10_p12 K B1 t0 t3 t20 t21 t22 w)) w) w) w) w) w) w)
  (s10_p11 K t0 t3 w)) w
def s10_p13_den (K : Value → World → Prop) (M1 : (Nat → Value) → World → Prop) : (Nat → Value) → World → Prop := denL Tryz.prog [(cd (Tryz.f10.body.getD .skip) [1, 1, 1, 0, 1, 0, 0, 0]), (cd (Tryz.f10.body.getD .skip) [1, 1, 1, 0, 1, 0, 0, 1, 0]), (cd (Tryz.f10.body.getD .skip) [1, 1, 1, 0, 1, 0, 0, 1, 1, 0])] (s10_p12_den K M1) (fun i => (bif Nat.beq i 0 then (s10_p11_den K) else (fun _ _ => False))) (s10_R K)
theorem s10_p13_ok (K : Value → World → Prop) (B1 : List Value → World → Prop) (s : Nat → Value) (w : World) (h : s10_p13 K B1 (s 0) (s 3) (s 20) (s 21) (s 22) w) : Tr (s10_p13_den K (fun s w => B1 [s 0, s 3, s 20, s 21, s 22] w) s w) :=
  tr_simple (P := Tryz.prog) (codes := [(cd (Tryz.f10.body.getD .skip) [1, 1, 1, 0, 1, 0, 0, 0]), (cd (Tryz.f10.body.getD .skip) [1, 1, 1, 0, 1, 0, 0, 1, 0]), (cd (Tryz.f10.body.getD .skip) [1, 1, 1, 0, 1, 0, 0, 1, 1, 0])]) (N := (fun s w => s10_p12 K B1 (s 0) (s 3) (s 20) (s 21) (s 22) w)) (N' := (s10_p12_den K (fun s w => B1 [s 0, s 3, s 20, s 21, s 22] w))) (X := (fun i => (bif Nat.beq i 0 then (fun s w => s10_p11 K (s 0) (s 3) w) else (fun _ _ => False)))) (X' := (fun i => (bif Nat.beq i 0 then (s10_p11_den K) else (fun _ _ => False)))) (R := s10_R K) (s := s) (w := w) (p := s10_p13 K B1 (s 0) (s 3) (s 20) (s 21) (s 22) w) (q := s10_p13_den K (fun s w => B1 [s 0, s 3, s 20, s 21, s 22] w) s w) (fun s w h => s10_p12_ok K B1 s w @h) (fun i => (tr_bif (fun s w h => s10_p11_ok K s w @h) tr_id)) (by kernel_rfl) (by kernel_rfl) @h
def s10_p14_F (K : Value → World → Prop) (B1 : List Value → World → Prop) (l : List Value) (w : World) : Prop :=
  match l with
  | [t0, t3, t20, t21, t22] => s10_p13 K B1 t0 t3 t20 t21 t22 w
  | _ => False
theorem s10_p14_Fe {K : Value → World → Prop} {B1 : List Value → World → Prop} {t0 t3 t20 t21 t22 : Value} {w : World} : s10_p14_F K B1 [t0, t3, t20, t21, t22] w = s10_p13 K B1 t0 t3 t20 t21 t22 w := by kernel_rfl
def s10_p14 (K : Value → World → Prop) (t0 t3 t20 t21 t22 : Value) (w : World) : Prop :=
  LoopL (s10_p14_F K) [t0, t3, t20, t21, t22] w
def s10_p14_den (K : Value → World → Prop) : (Nat → Value) → World → Prop := fun s w => LoopP (fun M1 s w => s10_p13_den K M1 s w) s w
theorem s10_p14_ok (K : Value → World → Prop) (s : Nat → Value) (w : World) (h : s10_p14 K (s 0) (s 3) (s 20) (s 21) (s 22) w) : Tr (s10_p14_den K s w) :=
  tr_loop (G := fun N' s w => s10_p13_den K N' s w) (F := s10_p14_F K) (sel := fun s => [s 0, s 3, s 20, s 21, s 22]) (s := s) (w := w) (p := s10_p14 K (s 0) (s 3) (s 20) (s 21) (s 22) w) (q := s10_p14_den K s w) (fun B s w h => s10_p13_ok K B s w @h) (by kernel_rfl) (by kernel_rfl) @h
def s10_p15 (K : Value → World → Prop) (t0 : Value) (w : World) : Prop :=
  cl Tryz.prog 17 #[t0] (fun t16 w =>
  un .not t16 (fun t17 w =>
  ifb t17
  (K (.bool true) w)
  (cl Tryz.prog 19 #[] (fun t18 w =>
  cl Tryz.prog 18 #[t18] (fun t19 w =>
  lnS t0 (fun t21 w =>
  s10_p14 K t0 t19 t0 t21 (.int .i64 0) w) w) w) w)) w) w
def s10_p15_den (K : Value → World → Prop) : (Nat → Value) → World → Prop := denL Tryz.prog [(cd (Tryz.f10.body.getD .skip) [0]), (cd (Tryz.f10.body.getD .skip) [1, 0, 0]), (cd (Tryz.f10.body.getD .skip) [1, 0, 1]), (cd (Tryz.f10.body.getD .skip) [1, 1, 0]), (cd (Tryz.f10.body.getD .skip) [1, 1, 1, 0, 0])] (s10_p14_den K) (fun i => (fun _ _ => False)) (s10_R K)
theorem s10_p15_ok (K : Value → World → Prop) (s : Nat → Value) (w : World) (h : s10_p15 K (s 0) w) : Tr (s10_p15_den K s w) :=
  tr_simple (P := Tryz.prog) (codes := [(cd (Tryz.f10.body.getD .skip) [0]), (cd (Tryz.f10.body.getD .skip) [1, 0, 0]), (cd (Tryz.f10.body.getD .skip) [1, 0, 1]), (cd (Tryz.f10.body.getD .skip) [1, 1, 0]), (cd (Tryz.f10.body.getD .skip) [1, 1, 1, 0, 0])]) (N := (fun s w => s10_p14 K (s 0) (s 3) (s 20) (s 21) (s 22) w)) (N' := (s10_p14_den K)) (X := (fun i => (fun _ _ => False))) (X' := (fun i => (fun _ _ => False))) (R := s10_R K) (s := s) (w := w) (p := s10_p15 K (s 0) w) (q := s10_p15_den K s w) (fun s w h => s10_p14_ok K s w @h) (fun i => tr_id) (by kernel_rfl) (by kernel_rfl) @h
/-- the call, from the text -/
theorem c10 (t0 : Value) {K : Value → World → Prop} {w : World} (h : s10_p15 K t0 w) : cl Tryz.prog 10 #[t0] K w :=
  calls_of_tr (c := (Tryz.f10.body.getD .skip)) (fn := Tryz.f10) (q := s10_p15_den K (st0 #[t0]) w) Tryz.func10 (by kernel_rfl) (by kernel_rfl) (Nat.le_of_ble_eq_true (by kernel_rfl)) (by kernel_rfl) (by kernel_rfl) (s10_p15_ok K (st0 #[t0]) w @h)

end Go.Proofs.Qxb6500896aGreat
