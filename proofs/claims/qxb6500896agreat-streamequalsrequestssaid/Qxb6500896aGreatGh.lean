import Derived.Test.Qxb6500896aGreatProg
import Derived.Test.Qxb6500896aGreatShMix4
namespace Go.Proofs.Qxb6500896aGreat
open Go.Sh Go.RowKit
set_option linter.unusedVariables false
set_option maxRecDepth 100000

/-! ### function 20 : e2e.enginem.New -/
def s20_R (K : Value → World → Prop) (s : Nat → Value) (w : World) : Prop := retv Tryz.prog s Tryz.f20.results.toList (fun vs => K (pack vs) w) w
def s20_p1 (K : Value → World → Prop) (t2 : Value) (w : World) : Prop :=
  K t2 w
def s20_p1_den (K : Value → World → Prop) : (Nat → Value) → World → Prop := denL Tryz.prog [(cd (Tryz.f20.body.getD .skip) [1, 1])] (fun _ _ => False) (fun i => (fun _ _ => False)) (s20_R K)
theorem s20_p1_ok (K : Value → World → Prop) (s : Nat → Value) (w : World) (h : s20_p1 K (s 2) w) : Tr (s20_p1_den K s w) :=
  tr_simple (P := Tryz.prog) (codes := [(cd (Tryz.f20.body.getD .skip) [1, 1])]) (N := (fun _ _ => False)) (N' := (fun _ _ => False)) (X := (fun i => (fun _ _ => False))) (X' := (fun i => (fun _ _ => False))) (R := s20_R K) (s := s) (w := w) (p := s20_p1 K (s 2) w) (q := s20_p1_den K s w) tr_id (fun i => tr_id) (by kernel_rfl) (by kernel_rfl) @h
def s20_p2_d (K : Value → World → Prop) (t1 : Value) (w0 w : World) : Prop :=
  ldn 14 t1 (fun t3 _ =>
  fd 0 t1 (fun t4 _ =>
  ld1 t4 (fun t5 _ =>
  lnS t5 (fun t6 _ =>
  mks 79 [(.slice none 0 0)] 24 t6 t6 (fun t7 w =>
  Below w0.heap.size w0 w ∧
  bdq [(.slice none 0 0), (.slice none 0 0), (.int .i64 0), (.int .i64 0), (.int .i64 0), (.int .i64 0), (.int .i64 0), (.int .i64 0), (.int .i64 0), (.int .i64 0), (.int .i64 0), (.int .i64 0), (.int .i64 0), (.int .i64 0), (.int .i64 0), (.slice none 0 0), (.slice none 0 0)] [(some (0, 14), t3), (some (16, 1), t7)] (fun t8 w =>
  nw 119 (t8).cells (fun t9 w =>
  s20_p1 K t9 w) w) w) w) w0) w0) w0) w0
def s20_p2 (K : Value → World → Prop) (t1 : Value) (w : World) : Prop := s20_p2_d K t1 (drw w) (drw w)
def s20_p2_den (K : Value → World → Prop) : (Nat → Value) → World → Prop := denL Tryz.prog [(cd (Tryz.f20.body.getD .skip) [1, 0])] (s20_p1_den K) (fun i => (fun _ _ => False)) (s20_R K)
theorem s20_p2_ok (K : Value → World → Prop) (s : Nat → Value) (w : World) (h : s20_p2 K (s 1) w) : Tr (s20_p2_den K s w) :=
  tr_draw (P := Tryz.prog) (ops := (ro (cd (Tryz.f20.body.getD .skip) [1, 0]))) (ms := [0, 0, 2, 6, 14, 31, 63, 127]) (cs := [0, 1, 2, 3]) (N := (fun s w => s20_p1 K (s 2) w)) (N' := (s20_p1_den K)) (s := s) (w := w) (p := s20_p2 K (s 1) w) (q := s20_p2_den K s w) (by kernel_rfl) (by kernel_rfl) (fun s w h => s20_p1_ok K s w @h) (by kernel_rfl) (by kernel_rfl) @h
def s20_p3 (K : Value → World → Prop) (t0 : Value) (w : World) : Prop :=
  nw 34 (t0).cells (fun t1 w =>
  s20_p2 K t1 w) w
def s20_p3_den (K : Value → World → Prop) : (Nat → Value) → World → Prop := denL Tryz.prog [(cd (Tryz.f20.body.getD .skip) [0])] (s20_p2_den K) (fun i => (fun _ _ => False)) (s20_R K)
theorem s20_p3_ok (K : Value → World → Prop) (s : Nat → Value) (w : World) (h : s20_p3 K (s 0) w) : Tr (s20_p3_den K s w) :=
  tr_simple (P := Tryz.prog) (codes := [(cd (Tryz.f20.body.getD .skip) [0])]) (N := (fun s w => s20_p2 K (s 1) w)) (N' := (s20_p2_den K)) (X := (fun i => (fun _ _ => False))) (X' := (fun i => (fun _ _ => False))) (R := s20_R K) (s := s) (w := w) (p := s20_p3 K (s 0) w) (q := s20_p3_den K s w) (fun s w h => s20_p2_ok K s w @h) (fun i => tr_id) (by kernel_rfl) (by kernel_rfl) @h
/-- the call, from the text -/
theorem c20 (t0 : Value) {K : Value → World → Prop} {w : World} (h : s20_p3 K t0 w) : cl Tryz.prog 20 #[t0] K w :=
  calls_of_tr (c := (Tryz.f20.body.getD .skip)) (fn := Tryz.f20) (q := s20_p3_den K (st0 #[t0]) w) Tryz.func20 (by kernel_rfl) (by kernel_rfl) (Nat.le_of_ble_eq_true (by kernel_rfl)) (by kernel_rfl) (by kernel_rfl) (s20_p3_ok K (st0 #[t0]) w @h)

/-! ### function 25 : (*e2e.enginem.State).Handle -/
def s25_R (K : Value → World → Prop) (s : Nat → Value) (w : World) : Prop := retv Tryz.prog s Tryz.f25.results.toList (fun vs => K (pack vs) w) w
def s25_p1 (K : Value → World → Prop) (w : World) : Prop :=
  cl Tryz.prog 83 #[(.int .i64 1)] (fun t293 w =>
  K t293 w) w
def s25_p1_den (K : Value → World → Prop) : (Nat → Value) → World → Prop := denL Tryz.prog [(cd (Tryz.f25.body.getD .skip) [1, 1, 1, 1, 1, 1, 1, 0]), (cd (Tryz.f25.body.getD .skip) [1, 1, 1, 1, 1, 1, 1, 1])] (fun _ _ => False) (fun i => (fun _ _ => False)) (s25_R K)
theorem s25_p1_ok (K : Value → World → Prop) (s : Nat → Value) (w : World) (h : s25_p1 K w) : Tr (s25_p1_den K s w) :=
  tr_simple (P := Tryz.prog) (codes := [(cd (Tryz.f25.body.getD .skip) [1, 1, 1, 1, 1, 1, 1, 0]), (cd (Tryz.f25.body.getD .skip) [1, 1, 1, 1, 1, 1, 1, 1])]) (N := (fun _ _ => False)) (N' := (fun _ _ => False)) (X := (fun i => (fun _ _ => False))) (X' := (fun i => (fun _ _ => False))) (R := s25_R K) (s := s) (w := w) (p := s25_p1 K w) (q := s25_p1_den K s w) tr_id (fun i => tr_id) (by kernel_rfl) (by kernel_rfl) @h
def s25_p2 (K : Value → World → Prop) (t4 : Value) (w : World) : Prop :=
  K t4 w
def s25_p2_den (K : Value → World → Prop) : (Nat → Value) → World → Prop := denL Tryz.prog [(cd (Tryz.f25.body.getD .skip) [1, 1, 1, 1, 1, 1, 0, 0, 1, 0, 1])] (fun _ _ => False) (fun i => (bif Nat.beq i 0 then (s25_p1_den K) else (fun _ _ => False))) (s25_R K)
theorem s25_p2_ok (K : Value → World → Prop) (s : Nat → Value) (w : World) (h : s25_p2 K (s 4) w) : Tr (s25_p2_den K s w) :=
  tr_simple (P := Tryz.prog) (codes := [(cd (Tryz.f25.body.getD .skip) [1, 1, 1, 1, 1, 1, 0, 0, 1, 0, 1])]) (N := (fun _ _ => False)) (N' := (fun _ _ => False)) (X := (fun i => (bif Nat.beq i 0 then (fun s w => s25_p1 K w) else (fun _ _ => False)))) (X' := (fun i => (bif Nat.beq i 0 then (s25_p1_den K) else (fun _ _ => False)))) (R := s25_R K) (s := s) (w := w) (p := s25_p2 K (s 4) w) (q := s25_p2_den K s w) tr_id (fun i => (tr_bif (fun s w h => s25_p1_ok K s w @h) tr_id)) (by kernel_rfl) (by kernel_rfl) @h
def s25_p3_d (K : Value → World → Prop) (t0 t6 : Value) (w0 w : World) : Prop :=
  ixs 1 t6 (.int .i64 0) (fun t36 _ =>
  ld1 t36 (fun t37 _ =>
  ixs 1 t6 (.int .i64 1) (fun t39 _ =>
  ld1 t39 (fun t40 _ =>
  sls 1 t6 (some (.int .i64 3)) none (fun t42 _ =>
  cl Tryz.prog 87 #[t42] (fun t43 w =>
  Below w0.heap.size w0 w ∧
  cl Tryz.prog 86 #[t0, t37, t40, t43] (fun t44 w =>
  s25_p2 K t44 w) w) w) w0) w0) w0) w0) w0
def s25_p3 (K : Value → World → Prop) (t0 t6 : Value) (w : World) : Prop := s25_p3_d K t0 t6 (drw w) (drw w)
def s25_p3_den (K : Value → World → Prop) : (Nat → Value) → World → Prop := denL Tryz.prog [(cd (Tryz.f25.body.getD .skip) [1, 1, 1, 1, 1, 1, 0, 0, 1, 0, 0])] (s25_p2_den K) (fun i => (bif Nat.beq i 0 then (s25_p1_den K) else (fun _ _ => False))) (s25_R K)
theorem s25_p3_ok (K : Value → World → Prop) (s : Nat → Value) (w : World) (h : s25_p3 K (s 0) (s 6) w) : Tr (s25_p3_den K s w) :=
  tr_draw (P := Tryz.prog) (ops := (ro (cd (Tryz.f25.body.getD .skip) [1, 1, 1, 1, 1, 1, 0, 0, 1, 0, 0]))) (ms := [0, 0, 2, 6, 0, 16, 48, 0, 128, 384, 1023, 2047]) (cs := [0, 1, 2, 3, 4, 5, 6, 7, 8]) (N := (fun s w => s25_p2 K (s 4) w)) (N' := (s25_p2_den K)) (s := s) (w := w) (p := s25_p3 K (s 0) (s 6) w) (q := s25_p3_den K s w) (by kernel_rfl) (by kernel_rfl) (fun s w h => s25_p2_ok K s w @h) (by kernel_rfl) (by kernel_rfl) @h
def s25_p4 (K : Value → World → Prop) (t0 t6 : Value) (w : World) : Prop :=
  ixs 1 t6 (.int .i64 0) (fun t54 w =>
  ld1 t54 (fun t55 w =>
  cl Tryz.prog 88 #[t0, t55] (fun t56 w =>
  K t56 w) w) w) w
def s25_p4_den (K : Value → World → Prop) : (Nat → Value) → World → Prop := denL Tryz.prog [(cd (Tryz.f25.body.getD .skip) [1, 1, 1, 1, 1, 1, 0, 0, 1, 1, 1, 0, 0]), (cd (Tryz.f25.body.getD .skip) [1, 1, 1, 1, 1, 1, 0, 0, 1, 1, 1, 0, 1])] (fun _ _ => False) (fun i => (bif Nat.beq i 0 then (s25_p1_den K) else (fun _ _ => False))) (s25_R K)
theorem s25_p4_ok (K : Value → World → Prop) (s : Nat → Value) (w : World) (h : s25_p4 K (s 0) (s 6) w) : Tr (s25_p4_den K s w) :=
  tr_simple (P := Tryz.prog) (codes := [(cd (Tryz.f25.body.getD .skip) [1, 1, 1, 1, 1, 1, 0, 0, 1, 1, 1, 0, 0]), (cd (Tryz.f25.body.getD .skip) [1, 1, 1, 1, 1, 1, 0, 0, 1, 1, 1, 0, 1])]) (N := (fun _ _ => False)) (N' := (fun _ _ => False)) (X := (fun i => (bif Nat.beq i 0 then (fun s w => s25_p1 K w) else (fun _ _ => False)))) (X' := (fun i => (bif Nat.beq i 0 then (s25_p1_den K) else (fun _ _ => False)))) (R := s25_R K) (s := s) (w := w) (p := s25_p4 K (s 0) (s 6) w) (q := s25_p4_den K s w) tr_id (fun i => (tr_bif (fun s w h => s25_p1_ok K s w @h) tr_id)) (by kernel_rfl) (by kernel_rfl) @h
def s25_p5 (K : Value → World → Prop) (t0 t6 : Value) (w : World) : Prop :=
  ixs 1 t6 (.int .i64 0) (fun t66 w =>
  ld1 t66 (fun t67 w =>
  cl Tryz.prog 89 #[t0, t67] (fun t68 w =>
  K t68 w) w) w) w
def s25_p5_den (K : Value → World → Prop) : (Nat → Value) → World → Prop := denL Tryz.prog [(cd (Tryz.f25.body.getD .skip) [1, 1, 1, 1, 1, 1, 0, 0, 1, 1, 1, 1, 1, 0, 0]), (cd (Tryz.f25.body.getD .skip) [1, 1, 1, 1, 1, 1, 0, 0, 1, 1, 1, 1, 1, 0, 1])] (fun _ _ => False) (fun i => (bif Nat.beq i 0 then (s25_p1_den K) else (fun _ _ => False))) (s25_R K)
theorem s25_p5_ok (K : Value → World → Prop) (s : Nat → Value) (w : World) (h : s25_p5 K (s 0) (s 6) w) : Tr (s25_p5_den K s w) :=
  tr_simple (P := Tryz.prog) (codes := [(cd (Tryz.f25.body.getD .skip) [1, 1, 1, 1, 1, 1, 0, 0, 1, 1, 1, 1, 1, 0, 0]), (cd (Tryz.f25.body.getD .skip) [1, 1, 1, 1, 1, 1, 0, 0, 1, 1, 1, 1, 1, 0, 1])]) (N := (fun _ _ => False)) (N' := (fun _ _ => False)) (X := (fun i => (bif Nat.beq i 0 then (fun s w => s25_p1 K w) else (fun _ _ => False)))) (X' := (fun i => (bif Nat.beq i 0 then (s25_p1_den K) else (fun _ _ => False)))) (R := s25_R K) (s := s) (w := w) (p := s25_p5 K (s 0) (s 6) w) (q := s25_p5_den K s w) tr_id (fun i => (tr_bif (fun s w h => s25_p1_ok K s w @h) tr_id)) (by kernel_rfl) (by kernel_rfl) @h
def s25_p6 (K : Value → World → Prop) (t0 t5 t6 : Value) (w : World) : Prop :=
  ixs 1 t6 (.int .i64 0) (fun t79 w =>
  ld1 t79 (fun t80 w =>
  cl Tryz.prog 90 #[t0, t5, t80, (.int .i64 2)] (fun t81 w =>
  K t81 w) w) w) w
def s25_p6_den (K : Value → World → Prop) : (Nat → Value) → World → Prop := denL Tryz.prog [(cd (Tryz.f25.body.getD .skip) [1, 1, 1, 1, 1, 1, 0, 0, 1, 1, 1, 1, 1, 1, 1, 0, 0]), (cd (Tryz.f25.body.getD .skip) [1, 1, 1, 1, 1, 1, 0, 0, 1, 1, 1, 1, 1, 1, 1, 0, 1])] (fun _ _ => False) (fun i => (bif Nat.beq i 0 then (s25_p1_den K) else (fun _ _ => False))) (s25_R K)
theorem s25_p6_ok (K : Value → World → Prop) (s : Nat → Value) (w : World) (h : s25_p6 K (s 0) (s 5) (s 6) w) : Tr (s25_p6_den K s w) :=
  tr_simple (P := Tryz.prog) (codes := [(cd (Tryz.f25.body.getD .skip) [1, 1, 1, 1, 1, 1, 0, 0, 1, 1, 1, 1, 1, 1, 1, 0, 0]), (cd (Tryz.f25.body.getD .skip) [1, 1, 1, 1, 1, 1, 0, 0, 1, 1, 1, 1, 1, 1, 1, 0, 1])]) (N := (fun _ _ => False)) (N' := (fun _ _ => False)) (X := (fun i => (bif Nat.beq i 0 then (fun s w => s25_p1 K w) else (fun _ _ => False)))) (X' := (fun i => (bif Nat.beq i 0 then (s25_p1_den K) else (fun _ _ => False)))) (R := s25_R K) (s := s) (w := w) (p := s25_p6 K (s 0) (s 5) (s 6) w) (q := s25_p6_den K s w) tr_id (fun i => (tr_bif (fun s w h => s25_p1_ok K s w @h) tr_id)) (by kernel_rfl) (by kernel_rfl) @h
def s25_p7 (K : Value → World → Prop) (t4 : Value) (w : World) : Prop :=
  K t4 w
def s25_p7_den (K : Value → World → Prop) : (Nat → Value) → World → Prop := denL Tryz.prog [(cd (Tryz.f25.body.getD .skip) [1, 1, 1, 1, 1, 1, 0, 0, 1, 1, 1, 1, 1, 1, 1, 1, 1, 0, 1])] (fun _ _ => False) (fun i => (bif Nat.beq i 0 then (s25_p1_den K) else (fun _ _ => False))) (s25_R K)
theorem s25_p7_ok (K : Value → World → Prop) (s : Nat → Value) (w : World) (h : s25_p7 K (s 4) w) : Tr (s25_p7_den K s w) :=
  tr_simple (P := Tryz.prog) (codes := [(cd (Tryz.f25.body.getD .skip) [1, 1, 1, 1, 1, 1, 0, 0, 1, 1, 1, 1, 1, 1, 1, 1, 1, 0, 1])]) (N := (fun _ _ => False)) (N' := (fun _ _ => False)) (X := (fun i => (bif Nat.beq i 0 then (fun s w => s25_p1 K w) else (fun _ _ => False)))) (X' := (fun i => (bif Nat.beq i 0 then (s25_p1_den K) else (fun _ _ => False)))) (R := s25_R K) (s := s) (w := w) (p := s25_p7 K (s 4) w) (q := s25_p7_den K s w) tr_id (fun i => (tr_bif (fun s w h => s25_p1_ok K s w @h) tr_id)) (by kernel_rfl) (by kernel_rfl) @h
def s25_p8_d (K : Value → World → Prop) (t0 t6 : Value) (w0 w : World) : Prop :=
  ixs 1 t6 (.int .i64 0) (fun t91 _ =>
  ld1 t91 (fun t92 _ =>
  sls 1 t6 (some (.int .i64 2)) none (fun t94 _ =>
  cl Tryz.prog 87 #[t94] (fun t95 w =>
  Below w0.heap.size w0 w ∧
  cl Tryz.prog 91 #[t0, t92, t95] (fun t96 w =>
  s25_p7 K t96 w) w) w) w0) w0) w0
def s25_p8 (K : Value → World → Prop) (t0 t6 : Value) (w : World) : Prop := s25_p8_d K t0 t6 (drw w) (drw w)
def s25_p8_den (K : Value → World → Prop) : (Nat → Value) → World → Prop := denL Tryz.prog [(cd (Tryz.f25.body.getD .skip) [1, 1, 1, 1, 1, 1, 0, 0, 1, 1, 1, 1, 1, 1, 1, 1, 1, 0, 0])] (s25_p7_den K) (fun i => (bif Nat.beq i 0 then (s25_p1_den K) else (fun _ _ => False))) (s25_R K)
theorem s25_p8_ok (K : Value → World → Prop) (s : Nat → Value) (w : World) (h : s25_p8 K (s 0) (s 6) w) : Tr (s25_p8_den K s w) :=
  tr_draw (P := Tryz.prog) (ops := (ro (cd (Tryz.f25.body.getD .skip) [1, 1, 1, 1, 1, 1, 0, 0, 1, 1, 1, 1, 1, 1, 1, 1, 1, 0, 0]))) (ms := [0, 0, 2, 6, 0, 16, 48, 127, 255]) (cs := [0, 1, 2, 3, 4, 5]) (N := (fun s w => s25_p7 K (s 4) w)) (N' := (s25_p7_den K)) (s := s) (w := w) (p := s25_p8 K (s 0) (s 6) w) (q := s25_p8_den K s w) (by kernel_rfl) (by kernel_rfl) (fun s w h => s25_p7_ok K s w @h) (by kernel_rfl) (by kernel_rfl) @h
def s25_p9 (K : Value → World → Prop) (t4 : Value) (w : World) : Prop :=
  K t4 w
def s25_p9_den (K : Value → World → Prop) : (Nat → Value) → World → Prop := denL Tryz.prog [(cd (Tryz.f25.body.getD .skip) [1, 1, 1, 1, 1, 1, 0, 0, 1, 1, 1, 1, 1, 1, 1, 1, 1, 1, 1, 0, 1])] (fun _ _ => False) (fun i => (bif Nat.beq i 0 then (s25_p1_den K) else (fun _ _ => False))) (s25_R K)
theorem s25_p9_ok (K : Value → World → Prop) (s : Nat → Value) (w : World) (h : s25_p9 K (s 4) w) : Tr (s25_p9_den K s w) :=
  tr_simple (P := Tryz.prog) (codes := [(cd (Tryz.f25.body.getD .skip) [1, 1, 1, 1, 1, 1, 0, 0, 1, 1, 1, 1, 1, 1, 1, 1, 1, 1, 1, 0, 1])]) (N := (fun _ _ => False)) (N' := (fun _ _ => False)) (X := (fun i => (bif Nat.beq i 0 then (fun s w => s25_p1 K w) else (fun _ _ => False)))) (X' := (fun i => (bif Nat.beq i 0 then (s25_p1_den K) else (fun _ _ => False)))) (R := s25_R K) (s := s) (w := w) (p := s25_p9 K (s 4) w) (q := s25_p9_den K s w) tr_id (fun i => (tr_bif (fun s w h => s25_p1_ok K s w @h) tr_id)) (by kernel_rfl) (by kernel_rfl) @h
def s25_p10_d (K : Value → World → Prop) (t0 t6 : Value) (w0 w : World) : Prop :=
  ixs 1 t6 (.int .i64 0) (fun t106 _ =>
  ld1 t106 (fun t107 _ =>
  ixs 1 t6 (.int .i64 1) (fun t109 _ =>
  ld1 t109 (fun t110 _ =>
  ixs 1 t6 (.int .i64 2) (fun t112 _ =>
  ld1 t112 (fun t113 _ =>
  cl Tryz.prog 92 #[t0, t107, t110, t113] (fun t114 w =>
  s25_p9 K t114 w) w) w0) w0) w0) w0) w0) w0
def s25_p10 (K : Value → World → Prop) (t0 t6 : Value) (w : World) : Prop := s25_p10_d K t0 t6 (drw w) (drw w)
def s25_p10_den (K : Value → World → Prop) : (Nat → Value) → World → Prop := denL Tryz.prog [(cd (Tryz.f25.body.getD .skip) [1, 1, 1, 1, 1, 1, 0, 0, 1, 1, 1, 1, 1, 1, 1, 1, 1, 1, 1, 0, 0])] (s25_p9_den K) (fun i => (bif Nat.beq i 0 then (s25_p1_den K) else (fun _ _ => False))) (s25_R K)
theorem s25_p10_ok (K : Value → World → Prop) (s : Nat → Value) (w : World) (h : s25_p10 K (s 0) (s 6) w) : Tr (s25_p10_den K s w) :=
  tr_draw (P := Tryz.prog) (ops := (ro (cd (Tryz.f25.body.getD .skip) [1, 1, 1, 1, 1, 1, 0, 0, 1, 1, 1, 1, 1, 1, 1, 1, 1, 1, 1, 0, 0]))) (ms := [0, 0, 2, 6, 0, 16, 48, 0, 128, 384, 1023, 2047]) (cs := [0, 1, 2, 3, 4, 5, 6, 7, 8, 9]) (N := (fun s w => s25_p9 K (s 4) w)) (N' := (s25_p9_den K)) (s := s) (w := w) (p := s25_p10 K (s 0) (s 6) w) (q := s25_p10_den K s w) (by kernel_rfl) (by kernel_rfl) (fun s w h => s25_p9_ok K s w @h) (by kernel_rfl) (by kernel_rfl) @h
def s25_p11 (K : Value → World → Prop) (t0 t6 : Value) (w : World) : Prop :=
  ixs 1 t6 (.int .i64 0) (fun t124 w =>
  ld1 t124 (fun t125 w =>
  cl Tryz.prog 93 #[t0, t125] (fun t126 w =>
  K t126 w) w) w) w
def s25_p11_den (K : Value → World → Prop) : (Nat → Value) → World → Prop := denL Tryz.prog [(cd (Tryz.f25.body.getD .skip) [1, 1, 1, 1, 1, 1, 0, 0, 1, 1, 1, 1, 1, 1, 1, 1, 1, 1, 1, 1, 1, 0, 0]), (cd (Tryz.f25.body.getD .skip) [1, 1, 1, 1, 1, 1, 0, 0, 1, 1, 1, 1, 1, 1, 1, 1, 1, 1, 1, 1, 1, 0, 1])] (fun _ _ => False) (fun i => (bif Nat.beq i 0 then (s25_p1_den K) else (fun _ _ => False))) (s25_R K)
theorem s25_p11_ok (K : Value → World → Prop) (s : Nat → Value) (w : World) (h : s25_p11 K (s 0) (s 6) w) : Tr (s25_p11_den K s w) :=
  tr_simple (P := Tryz.prog) (codes := [(cd (Tryz.f25.body.getD .skip) [1, 1, 1, 1, 1, 1, 0, 0, 1, 1, 1, 1, 1, 1, 1, 1, 1, 1, 1, 1, 1, 0, 0]), (cd (Tryz.f25.body.getD .skip) [1, 1, 1, 1, 1, 1, 0, 0, 1, 1, 1, 1, 1, 1, 1, 1, 1, 1, 1, 1, 1, 0, 1])]) (N := (fun _ _ => False)) (N' := (fun _ _ => False)) (X := (fun i => (bif Nat.beq i 0 then (fun s w => s25_p1 K w) else (fun _ _ => False)))) (X' := (fun i => (bif Nat.beq i 0 then (s25_p1_den K) else (fun _ _ => False)))) (R := s25_R K) (s := s) (w := w) (p := s25_p11 K (s 0) (s 6) w) (q := s25_p11_den K s w) tr_id (fun i => (tr_bif (fun s w h => s25_p1_ok K s w @h) tr_id)) (by kernel_rfl) (by kernel_rfl) @h
def s25_p12 (K : Value → World → Prop) (t0 t5 t6 : Value) (w : World) : Prop :=
  ixs 1 t6 (.int .i64 0) (fun t137 w =>
  ld1 t137 (fun t138 w =>
  cl Tryz.prog 90 #[t0, t5, t138, (.int .i64 8)] (fun t139 w =>
  K t139 w) w) w) w
def s25_p12_den (K : Value → World → Prop) : (Nat → Value) → World → Prop := denL Tryz.prog [(cd (Tryz.f25.body.getD .skip) [1, 1, 1, 1, 1, 1, 0, 0, 1, 1, 1, 1, 1, 1, 1, 1, 1, 1, 1, 1, 1, 1, 1, 0, 0]), (cd (Tryz.f25.body.getD .skip) [1, 1, 1, 1, 1, 1, 0, 0, 1, 1, 1, 1, 1, 1, 1, 1, 1, 1, 1, 1, 1, 1, 1, 0, 1])] (fun _ _ => False) (fun i => (bif Nat.beq i 0 then (s25_p1_den K) else (fun _ _ => False))) (s25_R K)
theorem s25_p12_ok (K : Value → World → Prop) (s : Nat → Value) (w : World) (h : s25_p12 K (s 0) (s 5) (s 6) w) : Tr (s25_p12_den K s w) :=
  tr_simple (P := Tryz.prog) (codes := [(cd (Tryz.f25.body.getD .skip) [1, 1, 1, 1, 1, 1, 0, 0, 1, 1, 1, 1, 1, 1, 1, 1, 1, 1, 1, 1, 1, 1, 1, 0, 0]), (cd (Tryz.f25.body.getD .skip) [1, 1, 1, 1, 1, 1, 0, 0, 1, 1, 1, 1, 1, 1, 1, 1, 1, 1, 1, 1, 1, 1, 1, 0, 1])]) (N := (fun _ _ => False)) (N' := (fun _ _ => False)) (X := (fun i => (bif Nat.beq i 0 then (fun s w => s25_p1 K w) else (fun _ _ => False)))) (X' := (fun i => (bif Nat.beq i 0 then (s25_p1_den K) else (fun _ _ => False)))) (R := s25_R K) (s := s) (w := w) (p := s25_p12 K (s 0) (s 5) (s 6) w) (q := s25_p12_den K s w) tr_id (fun i => (tr_bif (fun s w h => s25_p1_ok K s w @h) tr_id)) (by kernel_rfl) (by kernel_rfl) @h
def s25_p13 (K : Value → World → Prop) (t0 : Value) (w : World) : Prop :=
  cl Tryz.prog 94 #[t0] (fun t148 w =>
  K t148 w) w
def s25_p13_den (K : Value → World → Prop) : (Nat → Value) → World → Prop := denL Tryz.prog [(cd (Tryz.f25.body.getD .skip) [1, 1, 1, 1, 1, 1, 0, 0, 1, 1, 1, 1, 1, 1, 1, 1, 1, 1, 1, 1, 1, 1, 1, 1, 1, 0, 0]), (cd (Tryz.f25.body.getD .skip) [1, 1, 1, 1, 1, 1, 0, 0, 1, 1, 1, 1, 1, 1, 1, 1, 1, 1, 1, 1, 1, 1, 1, 1, 1, 0, 1])] (fun _ _ => False) (fun i => (bif Nat.beq i 0 then (s25_p1_den K) else (fun _ _ => False))) (s25_R K)
theorem s25_p13_ok (K : Value → World → Prop) (s : Nat → Value) (w : World) (h : s25_p13 K (s 0) w) : Tr (s25_p13_den K s w) :=
  tr_simple (P := Tryz.prog) (codes := [(cd (Tryz.f25.body.getD .skip) [1, 1, 1, 1, 1, 1, 0, 0, 1, 1, 1, 1, 1, 1, 1, 1, 1, 1, 1, 1, 1, 1, 1, 1, 1, 0, 0]), (cd (Tryz.f25.body.getD .skip) [1, 1, 1, 1, 1, 1, 0, 0, 1, 1, 1, 1, 1, 1, 1, 1, 1, 1, 1, 1, 1, 1, 1, 1, 1, 0, 1])]) (N := (fun _ _ => False)) (N' := (fun _ _ => False)) (X := (fun i => (bif Nat.beq i 0 then (fun s w => s25_p1 K w) else (fun _ _ => False)))) (X' := (fun i => (bif Nat.beq i 0 then (s25_p1_den K) else (fun _ _ => False)))) (R := s25_R K) (s := s) (w := w) (p := s25_p13 K (s 0) w) (q := s25_p13_den K s w) tr_id (fun i => (tr_bif (fun s w h => s25_p1_ok K s w @h) tr_id)) (by kernel_rfl) (by kernel_rfl) @h
def s25_p14 (K : Value → World → Prop) (t0 t6 : Value) (w : World) : Prop :=
  ixs 1 t6 (.int .i64 0) (fun t158 w =>
  ld1 t158 (fun t159 w =>
  cl Tryz.prog 95 #[t0, t159] (fun t160 w =>
  K t160 w) w) w) w
def s25_p14_den (K : Value → World → Prop) : (Nat → Value) → World → Prop := denL Tryz.prog [(cd (Tryz.f25.body.getD .skip) [1, 1, 1, 1, 1, 1, 0, 0, 1, 1, 1, 1, 1, 1, 1, 1, 1, 1, 1, 1, 1, 1, 1, 1, 1, 1, 1, 0, 0]), (cd (Tryz.f25.body.getD .skip) [1, 1, 1, 1, 1, 1, 0, 0, 1, 1, 1, 1, 1, 1, 1, 1, 1, 1, 1, 1, 1, 1, 1, 1, 1, 1, 1, 0, 1])] (fun _ _ => False) (fun i => (bif Nat.beq i 0 then (s25_p1_den K) else (fun _ _ => False))) (s25_R K)
theorem s25_p14_ok (K : Value → World → Prop) (s : Nat → Value) (w : World) (h : s25_p14 K (s 0) (s 6) w) : Tr (s25_p14_den K s w) :=
  tr_simple (P := Tryz.prog) (codes := [(cd (Tryz.f25.body.getD .skip) [1, 1, 1, 1, 1, 1, 0, 0, 1, 1, 1, 1, 1, 1, 1, 1, 1, 1, 1, 1, 1, 1, 1, 1, 1, 1, 1, 0, 0]), (cd (Tryz.f25.body.getD .skip) [1, 1, 1, 1, 1, 1, 0, 0, 1, 1, 1, 1, 1, 1, 1, 1, 1, 1, 1, 1, 1, 1, 1, 1, 1, 1, 1, 0, 1])]) (N := (fun _ _ => False)) (N' := (fun _ _ => False)) (X := (fun i => (bif Nat.beq i 0 then (fun s w => s25_p1 K w) else (fun _ _ => False)))) (X' := (fun i => (bif Nat.beq i 0 then (s25_p1_den K) else (fun _ _ => False)))) (R := s25_R K) (s := s) (w := w) (p := s25_p14 K (s 0) (s 6) w) (q := s25_p14_den K s w) tr_id (fun i => (tr_bif (fun s w h => s25_p1_ok K s w @h) tr_id)) (by kernel_rfl) (by kernel_rfl) @h
def s25_p15 (K : Value → World → Prop) (t4 : Value) (w : World) : Prop :=
  K t4 w
def s25_p15_den (K : Value → World → Prop) : (Nat → Value) → World → Prop := denL Tryz.prog [(cd (Tryz.f25.body.getD .skip) [1, 1, 1, 1, 1, 1, 0, 0, 1, 1, 1, 1, 1, 1, 1, 1, 1, 1, 1, 1, 1, 1, 1, 1, 1, 1, 1, 1, 1, 0, 1])] (fun _ _ => False) (fun i => (bif Nat.beq i 0 then (s25_p1_den K) else (fun _ _ => False))) (s25_R K)
theorem s25_p15_ok (K : Value → World → Prop) (s : Nat → Value) (w : World) (h : s25_p15 K (s 4) w) : Tr (s25_p15_den K s w) :=
  tr_simple (P := Tryz.prog) (codes := [(cd (Tryz.f25.body.getD .skip) [1, 1, 1, 1, 1, 1, 0, 0, 1, 1, 1, 1, 1, 1, 1, 1, 1, 1, 1, 1, 1, 1, 1, 1, 1, 1, 1, 1, 1, 0, 1])]) (N := (fun _ _ => False)) (N' := (fun _ _ => False)) (X := (fun i => (bif Nat.beq i 0 then (fun s w => s25_p1 K w) else (fun _ _ => False)))) (X' := (fun i => (bif Nat.beq i 0 then (s25_p1_den K) else (fun _ _ => False)))) (R := s25_R K) (s := s) (w := w) (p := s25_p15 K (s 4) w) (q := s25_p15_den K s w) tr_id (fun i => (tr_bif (fun s w h => s25_p1_ok K s w @h) tr_id)) (by kernel_rfl) (by kernel_rfl) @h
def s25_p16_d (K : Value → World → Prop) (t0 t6 : Value) (w0 w : World) : Prop :=
  ixs 1 t6 (.int .i64 0) (fun t170 _ =>
  ld1 t170 (fun t171 _ =>
  ixs 1 t6 (.int .i64 1) (fun t173 _ =>
  ld1 t173 (fun t174 _ =>
  cl Tryz.prog 96 #[t0, t171, t174] (fun t175 w =>
  s25_p15 K t175 w) w) w0) w0) w0) w0
def s25_p16 (K : Value → World → Prop) (t0 t6 : Value) (w : World) : Prop := s25_p16_d K t0 t6 (drw w) (drw w)
def s25_p16_den (K : Value → World → Prop) : (Nat → Value) → World → Prop := denL Tryz.prog [(cd (Tryz.f25.body.getD .skip) [1, 1, 1, 1, 1, 1, 0, 0, 1, 1, 1, 1, 1, 1, 1, 1, 1, 1, 1, 1, 1, 1, 1, 1, 1, 1, 1, 1, 1, 0, 0])] (s25_p15_den K) (fun i => (bif Nat.beq i 0 then (s25_p1_den K) else (fun _ _ => False))) (s25_R K)
theorem s25_p16_ok (K : Value → World → Prop) (s : Nat → Value) (w : World) (h : s25_p16 K (s 0) (s 6) w) : Tr (s25_p16_den K s w) :=
  tr_draw (P := Tryz.prog) (ops := (ro (cd (Tryz.f25.body.getD .skip) [1, 1, 1, 1, 1, 1, 0, 0, 1, 1, 1, 1, 1, 1, 1, 1, 1, 1, 1, 1, 1, 1, 1, 1, 1, 1, 1, 1, 1, 0, 0]))) (ms := [0, 0, 2, 6, 0, 16, 48, 127, 255]) (cs := [0, 1, 2, 3, 4, 5, 6]) (N := (fun s w => s25_p15 K (s 4) w)) (N' := (s25_p15_den K)) (s := s) (w := w) (p := s25_p16 K (s 0) (s 6) w) (q := s25_p16_den K s w) (by kernel_rfl) (by kernel_rfl) (fun s w h => s25_p15_ok K s w @h) (by kernel_rfl) (by kernel_rfl) @h
def s25_p17 (K : Value → World → Prop) (t4 : Value) (w : World) : Prop :=
  K t4 w
def s25_p17_den (K : Value → World → Prop) : (Nat → Value) → World → Prop := denL Tryz.prog [(cd (Tryz.f25.body.getD .skip) [1, 1, 1, 1, 1, 1, 0, 0, 1, 1, 1, 1, 1, 1, 1, 1, 1, 1, 1, 1, 1, 1, 1, 1, 1, 1, 1, 1, 1, 1, 1, 0, 1])] (fun _ _ => False) (fun i => (bif Nat.beq i 0 then (s25_p1_den K) else (fun _ _ => False))) (s25_R K)
theorem s25_p17_ok (K : Value → World → Prop) (s : Nat → Value) (w : World) (h : s25_p17 K (s 4) w) : Tr (s25_p17_den K s w) :=
  tr_simple (P := Tryz.prog) (codes := [(cd (Tryz.f25.body.getD .skip) [1, 1, 1, 1, 1, 1, 0, 0, 1, 1, 1, 1, 1, 1, 1, 1, 1, 1, 1, 1, 1, 1, 1, 1, 1, 1, 1, 1, 1, 1, 1, 0, 1])]) (N := (fun _ _ => False)) (N' := (fun _ _ => False)) (X := (fun i => (bif Nat.beq i 0 then (fun s w => s25_p1 K w) else (fun _ _ => False)))) (X' := (fun i => (bif Nat.beq i 0 then (s25_p1_den K) else (fun _ _ => False)))) (R := s25_R K) (s := s) (w := w) (p := s25_p17 K (s 4) w) (q := s25_p17_den K s w) tr_id (fun i => (tr_bif (fun s w h => s25_p1_ok K s w @h) tr_id)) (by kernel_rfl) (by kernel_rfl) @h
def s25_p18_d (K : Value → World → Prop) (t0 t6 : Value) (w0 w : World) : Prop :=
  ixs 1 t6 (.int .i64 0) (fun t185 _ =>
  ld1 t185 (fun t186 _ =>
  ixs 1 t6 (.int .i64 1) (fun t188 _ =>
  ld1 t188 (fun t189 _ =>
  cl Tryz.prog 97 #[t0, t186, t189] (fun t190 w =>
  s25_p17 K t190 w) w) w0) w0) w0) w0
def s25_p18 (K : Value → World → Prop) (t0 t6 : Value) (w : World) : Prop := s25_p18_d K t0 t6 (drw w) (drw w)
def s25_p18_den (K : Value → World → Prop) : (Nat → Value) → World → Prop := denL Tryz.prog [(cd (Tryz.f25.body.getD .skip) [1, 1, 1, 1, 1, 1, 0, 0, 1, 1, 1, 1, 1, 1, 1, 1, 1, 1, 1, 1, 1, 1, 1, 1, 1, 1, 1, 1, 1, 1, 1, 0, 0])] (s25_p17_den K) (fun i => (bif Nat.beq i 0 then (s25_p1_den K) else (fun _ _ => False))) (s25_R K)
theorem s25_p18_ok (K : Value → World → Prop) (s : Nat → Value) (w : World) (h : s25_p18 K (s 0) (s 6) w) : Tr (s25_p18_den K s w) :=
  tr_draw (P := Tryz.prog) (ops := (ro (cd (Tryz.f25.body.getD .skip) [1, 1, 1, 1, 1, 1, 0, 0, 1, 1, 1, 1, 1, 1, 1, 1, 1, 1, 1, 1, 1, 1, 1, 1, 1, 1, 1, 1, 1, 1, 1, 0, 0]))) (ms := [0, 0, 2, 6, 0, 16, 48, 127, 255]) (cs := [0, 1, 2, 3, 4, 5, 6]) (N := (fun s w => s25_p17 K (s 4) w)) (N' := (s25_p17_den K)) (s := s) (w := w) (p := s25_p18 K (s 0) (s 6) w) (q := s25_p18_den K s w) (by kernel_rfl) (by kernel_rfl) (fun s w h => s25_p17_ok K s w @h) (by kernel_rfl) (by kernel_rfl) @h
def s25_p19 (K : Value → World → Prop) (t0 t6 : Value) (w : World) : Prop :=
  ixs 1 t6 (.int .i64 0) (fun t200 w =>
  ld1 t200 (fun t201 w =>
  cl Tryz.prog 98 #[t0, t201] (fun t202 w =>
  K t202 w) w) w) w
def s25_p19_den (K : Value → World → Prop) : (Nat → Value) → World → Prop := denL Tryz.prog [(cd (Tryz.f25.body.getD .skip) [1, 1, 1, 1, 1, 1, 0, 0, 1, 1, 1, 1, 1, 1, 1, 1, 1, 1, 1, 1, 1, 1, 1, 1, 1, 1, 1, 1, 1, 1, 1, 1, 1, 0, 0]), (cd (Tryz.f25.body.getD .skip) [1, 1, 1, 1, 1, 1, 0, 0, 1, 1, 1, 1, 1, 1, 1, 1, 1, 1, 1, 1, 1, 1, 1, 1, 1, 1, 1, 1, 1, 1, 1, 1, 1, 0, 1])] (fun _ _ => False) (fun i => (bif Nat.beq i 0 then (s25_p1_den K) else (fun _ _ => False))) (s25_R K)
theorem s25_p19_ok (K : Value → World → Prop) (s : Nat → Value) (w : World) (h : s25_p19 K (s 0) (s 6) w) : Tr (s25_p19_den K s w) :=
  tr_simple (P := Tryz.prog) (codes := [(cd (Tryz.f25.body.getD .skip) [1, 1, 1, 1, 1, 1, 0, 0, 1, 1, 1, 1, 1, 1, 1, 1, 1, 1, 1, 1, 1, 1, 1, 1, 1, 1, 1, 1, 1, 1, 1, 1, 1, 0, 0]), (cd (Tryz.f25.body.getD .skip) [1, 1, 1, 1, 1, 1, 0, 0, 1, 1, 1, 1, 1, 1, 1, 1, 1, 1, 1, 1, 1, 1, 1, 1, 1, 1, 1, 1, 1, 1, 1, 1, 1, 0, 1])]) (N := (fun _ _ => False)) (N' := (fun _ _ => False)) (X := (fun i => (bif Nat.beq i 0 then (fun s w => s25_p1 K w) else (fun _ _ => False)))) (X' := (fun i => (bif Nat.beq i 0 then (s25_p1_den K) else (fun _ _ => False)))) (R := s25_R K) (s := s) (w := w) (p := s25_p19 K (s 0) (s 6) w) (q := s25_p19_den K s w) tr_id (fun i => (tr_bif (fun s w h => s25_p1_ok K s w @h) tr_id)) (by kernel_rfl) (by kernel_rfl) @h
def s25_p20 (K : Value → World → Prop) (t4 : Value) (w : World) : Prop :=
  K t4 w
def s25_p20_den (K : Value → World → Prop) : (Nat → Value) → World → Prop := denL Tryz.prog [(cd (Tryz.f25.body.getD .skip) [1, 1, 1, 1, 1, 1, 0, 0, 1, 1, 1, 1, 1, 1, 1, 1, 1, 1, 1, 1, 1, 1, 1, 1, 1, 1, 1, 1, 1, 1, 1, 1, 1, 1, 1, 0, 1])] (fun _ _ => False) (fun i => (bif Nat.beq i 0 then (s25_p1_den K) else (fun _ _ => False))) (s25_R K)
theorem s25_p20_ok (K : Value → World → Prop) (s : Nat → Value) (w : World) (h : s25_p20 K (s 4) w) : Tr (s25_p20_den K s w) :=
  tr_simple (P := Tryz.prog) (codes := [(cd (Tryz.f25.body.getD .skip) [1, 1, 1, 1, 1, 1, 0, 0, 1, 1, 1, 1, 1, 1, 1, 1, 1, 1, 1, 1, 1, 1, 1, 1, 1, 1, 1, 1, 1, 1, 1, 1, 1, 1, 1, 0, 1])]) (N := (fun _ _ => False)) (N' := (fun _ _ => False)) (X := (fun i => (bif Nat.beq i 0 then (fun s w => s25_p1 K w) else (fun _ _ => False)))) (X' := (fun i => (bif Nat.beq i 0 then (s25_p1_den K) else (fun _ _ => False)))) (R := s25_R K) (s := s) (w := w) (p := s25_p20 K (s 4) w) (q := s25_p20_den K s w) tr_id (fun i => (tr_bif (fun s w h => s25_p1_ok K s w @h) tr_id)) (by kernel_rfl) (by kernel_rfl) @h
def s25_p21_d (K : Value → World → Prop) (t0 t5 : Value) (w0 w : World) : Prop :=
  nck t0 (fun t212 _ =>
  fd 14 t212 (fun t213 _ =>
  ld1 t213 (fun t214 _ =>
  nck t0 (fun t216 _ =>
  fd 14 t216 (fun t217 _ =>
  ld1 t217 (fun t218 _ =>
  nck t0 (fun t220 _ =>
  fd 0 t220 (fun t221 _ =>
  fd 2 t221 (fun t222 _ =>
  ld1 t222 (fun t223 _ =>
  boI .add t218 t223 (fun t224 _ =>
  boI .sub t224 (.int .i64 1) (fun t225 _ =>
  nck t0 (fun t227 _ =>
  fd 15 t227 (fun t228 _ =>
  ld1 t228 (fun t229 _ =>
  lnS t229 (fun t230 _ =>
  bsq 3 [(.int .i64 0)] 3 [(some (0, 1), t214), (some (1, 1), t225), (some (2, 1), t230)] (fun t231 w =>
  cl Tryz.prog 99 #[t5, t231] (fun t232 w =>
  s25_p20 K t232 w) w) w) w0) w0) w0) w0) w0) w0) w0) w0) w0) w0) w0) w0) w0) w0) w0) w0
def s25_p21 (K : Value → World → Prop) (t0 t5 : Value) (w : World) : Prop := s25_p21_d K t0 t5 (drw w) (drw w)
def s25_p21_den (K : Value → World → Prop) : (Nat → Value) → World → Prop := denL Tryz.prog [(cd (Tryz.f25.body.getD .skip) [1, 1, 1, 1, 1, 1, 0, 0, 1, 1, 1, 1, 1, 1, 1, 1, 1, 1, 1, 1, 1, 1, 1, 1, 1, 1, 1, 1, 1, 1, 1, 1, 1, 1, 1, 0, 0])] (s25_p20_den K) (fun i => (bif Nat.beq i 0 then (s25_p1_den K) else (fun _ _ => False))) (s25_R K)
theorem s25_p21_ok (K : Value → World → Prop) (s : Nat → Value) (w : World) (h : s25_p21 K (s 0) (s 5) w) : Tr (s25_p21_den K s w) :=
  tr_draw (P := Tryz.prog) (ops := (ro (cd (Tryz.f25.body.getD .skip) [1, 1, 1, 1, 1, 1, 0, 0, 1, 1, 1, 1, 1, 1, 1, 1, 1, 1, 1, 1, 1, 1, 1, 1, 1, 1, 1, 1, 1, 1, 1, 1, 1, 1, 1, 0, 0]))) (ms := [0, 0, 2, 6, 14, 0, 32, 96, 224, 0, 512, 1536, 3584, 7680, 16352, 32736, 0, 65536, 196608, 458752, 983040, 2097150, 4194303, 8388607]) (cs := [0, 1, 2, 3, 4, 5, 6, 7, 8, 9, 10, 11, 12, 13, 14, 15, 16, 17, 18, 19, 20]) (N := (fun s w => s25_p20 K (s 4) w)) (N' := (s25_p20_den K)) (s := s) (w := w) (p := s25_p21 K (s 0) (s 5) w) (q := s25_p21_den K s w) (by kernel_rfl) (by kernel_rfl) (fun s w h => s25_p20_ok K s w @h) (by kernel_rfl) (by kernel_rfl) @h
def s25_p22 (K : Value → World → Prop) (t4 : Value) (w : World) : Prop :=
  K t4 w
def s25_p22_den (K : Value → World → Prop) : (Nat → Value) → World → Prop := denL Tryz.prog [(cd (Tryz.f25.body.getD .skip) [1, 1, 1, 1, 1, 1, 0, 0, 1, 1, 1, 1, 1, 1, 1, 1, 1, 1, 1, 1, 1, 1, 1, 1, 1, 1, 1, 1, 1, 1, 1, 1, 1, 1, 1, 1, 1, 0, 1])] (fun _ _ => False) (fun i => (bif Nat.beq i 0 then (s25_p1_den K) else (fun _ _ => False))) (s25_R K)
theorem s25_p22_ok (K : Value → World → Prop) (s : Nat → Value) (w : World) (h : s25_p22 K (s 4) w) : Tr (s25_p22_den K s w) :=
  tr_simple (P := Tryz.prog) (codes := [(cd (Tryz.f25.body.getD .skip) [1, 1, 1, 1, 1, 1, 0, 0, 1, 1, 1, 1, 1, 1, 1, 1, 1, 1, 1, 1, 1, 1, 1, 1, 1, 1, 1, 1, 1, 1, 1, 1, 1, 1, 1, 1, 1, 0, 1])]) (N := (fun _ _ => False)) (N' := (fun _ _ => False)) (X := (fun i => (bif Nat.beq i 0 then (fun s w => s25_p1 K w) else (fun _ _ => False)))) (X' := (fun i => (bif Nat.beq i 0 then (s25_p1_den K) else (fun _ _ => False)))) (R := s25_R K) (s := s) (w := w) (p := s25_p22 K (s 4) w) (q := s25_p22_den K s w) tr_id (fun i => (tr_bif (fun s w h => s25_p1_ok K s w @h) tr_id)) (by kernel_rfl) (by kernel_rfl) @h
def s25_p23_d (K : Value → World → Prop) (t0 t6 : Value) (w0 w : World) : Prop :=
  ixs 1 t6 (.int .i64 0) (fun t242 _ =>
  ld1 t242 (fun t243 _ =>
  ixs 1 t6 (.int .i64 1) (fun t245 _ =>
  ld1 t245 (fun t246 _ =>
  ixs 1 t6 (.int .i64 2) (fun t248 _ =>
  ld1 t248 (fun t249 _ =>
  ixs 1 t6 (.int .i64 3) (fun t251 _ =>
  ld1 t251 (fun t252 _ =>
  cl Tryz.prog 100 #[t0, t243, t246, t249, t252] (fun t253 w =>
  s25_p22 K t253 w) w) w0) w0) w0) w0) w0) w0) w0) w0
def s25_p23 (K : Value → World → Prop) (t0 t6 : Value) (w : World) : Prop := s25_p23_d K t0 t6 (drw w) (drw w)
def s25_p23_den (K : Value → World → Prop) : (Nat → Value) → World → Prop := denL Tryz.prog [(cd (Tryz.f25.body.getD .skip) [1, 1, 1, 1, 1, 1, 0, 0, 1, 1, 1, 1, 1, 1, 1, 1, 1, 1, 1, 1, 1, 1, 1, 1, 1, 1, 1, 1, 1, 1, 1, 1, 1, 1, 1, 1, 1, 0, 0])] (s25_p22_den K) (fun i => (bif Nat.beq i 0 then (s25_p1_den K) else (fun _ _ => False))) (s25_R K)
theorem s25_p23_ok (K : Value → World → Prop) (s : Nat → Value) (w : World) (h : s25_p23 K (s 0) (s 6) w) : Tr (s25_p23_den K s w) :=
  tr_draw (P := Tryz.prog) (ops := (ro (cd (Tryz.f25.body.getD .skip) [1, 1, 1, 1, 1, 1, 0, 0, 1, 1, 1, 1, 1, 1, 1, 1, 1, 1, 1, 1, 1, 1, 1, 1, 1, 1, 1, 1, 1, 1, 1, 1, 1, 1, 1, 1, 1, 0, 0]))) (ms := [0, 0, 2, 6, 0, 16, 48, 0, 128, 384, 0, 1024, 3072, 8191, 16383]) (cs := [0, 1, 2, 3, 4, 5, 6, 7, 8, 9, 10, 11, 12]) (N := (fun s w => s25_p22 K (s 4) w)) (N' := (s25_p22_den K)) (s := s) (w := w) (p := s25_p23 K (s 0) (s 6) w) (q := s25_p23_den K s w) (by kernel_rfl) (by kernel_rfl) (fun s w h => s25_p22_ok K s w @h) (by kernel_rfl) (by kernel_rfl) @h
def s25_p24 (K : Value → World → Prop) (t4 : Value) (w : World) : Prop :=
  K t4 w
def s25_p24_den (K : Value → World → Prop) : (Nat → Value) → World → Prop := denL Tryz.prog [(cd (Tryz.f25.body.getD .skip) [1, 1, 1, 1, 1, 1, 0, 0, 1, 1, 1, 1, 1, 1, 1, 1, 1, 1, 1, 1, 1, 1, 1, 1, 1, 1, 1, 1, 1, 1, 1, 1, 1, 1, 1, 1, 1, 1, 1, 0, 1])] (fun _ _ => False) (fun i => (bif Nat.beq i 0 then (s25_p1_den K) else (fun _ _ => False))) (s25_R K)
theorem s25_p24_ok (K : Value → World → Prop) (s : Nat → Value) (w : World) (h : s25_p24 K (s 4) w) : Tr (s25_p24_den K s w) :=
  tr_simple (P := Tryz.prog) (codes := [(cd (Tryz.f25.body.getD .skip) [1, 1, 1, 1, 1, 1, 0, 0, 1, 1, 1, 1, 1, 1, 1, 1, 1, 1, 1, 1, 1, 1, 1, 1, 1, 1, 1, 1, 1, 1, 1, 1, 1, 1, 1, 1, 1, 1, 1, 0, 1])]) (N := (fun _ _ => False)) (N' := (fun _ _ => False)) (X := (fun i => (bif Nat.beq i 0 then (fun s w => s25_p1 K w) else (fun _ _ => False)))) (X' := (fun i => (bif Nat.beq i 0 then (s25_p1_den K) else (fun _ _ => False)))) (R := s25_R K) (s := s) (w := w) (p := s25_p24 K (s 4) w) (q := s25_p24_den K s w) tr_id (fun i => (tr_bif (fun s w h => s25_p1_ok K s w @h) tr_id)) (by kernel_rfl) (by kernel_rfl) @h
def s25_p25_d (K : Value → World → Prop) (t0 t6 : Value) (w0 w : World) : Prop :=
  ixs 1 t6 (.int .i64 0) (fun t263 _ =>
  ld1 t263 (fun t264 _ =>
  ixs 1 t6 (.int .i64 1) (fun t266 _ =>
  ld1 t266 (fun t267 _ =>
  sls 1 t6 (some (.int .i64 3)) none (fun t269 _ =>
  cl Tryz.prog 87 #[t269] (fun t270 w =>
  Below w0.heap.size w0 w ∧
  cl Tryz.prog 101 #[t0, t264, t267, t270] (fun t271 w =>
  s25_p24 K t271 w) w) w) w0) w0) w0) w0) w0
def s25_p25 (K : Value → World → Prop) (t0 t6 : Value) (w : World) : Prop := s25_p25_d K t0 t6 (drw w) (drw w)
def s25_p25_den (K : Value → World → Prop) : (Nat → Value) → World → Prop := denL Tryz.prog [(cd (Tryz.f25.body.getD .skip) [1, 1, 1, 1, 1, 1, 0, 0, 1, 1, 1, 1, 1, 1, 1, 1, 1, 1, 1, 1, 1, 1, 1, 1, 1, 1, 1, 1, 1, 1, 1, 1, 1, 1, 1, 1, 1, 1, 1, 0, 0])] (s25_p24_den K) (fun i => (bif Nat.beq i 0 then (s25_p1_den K) else (fun _ _ => False))) (s25_R K)
theorem s25_p25_ok (K : Value → World → Prop) (s : Nat → Value) (w : World) (h : s25_p25 K (s 0) (s 6) w) : Tr (s25_p25_den K s w) :=
  tr_draw (P := Tryz.prog) (ops := (ro (cd (Tryz.f25.body.getD .skip) [1, 1, 1, 1, 1, 1, 0, 0, 1, 1, 1, 1, 1, 1, 1, 1, 1, 1, 1, 1, 1, 1, 1, 1, 1, 1, 1, 1, 1, 1, 1, 1, 1, 1, 1, 1, 1, 1, 1, 0, 0]))) (ms := [0, 0, 2, 6, 0, 16, 48, 0, 128, 384, 1023, 2047]) (cs := [0, 1, 2, 3, 4, 5, 6, 7, 8]) (N := (fun s w => s25_p24 K (s 4) w)) (N' := (s25_p24_den K)) (s := s) (w := w) (p := s25_p25 K (s 0) (s 6) w) (q := s25_p25_den K s w) (by kernel_rfl) (by kernel_rfl) (fun s w h => s25_p24_ok K s w @h) (by kernel_rfl) (by kernel_rfl) @h
def s25_p26 (K : Value → World → Prop) (t0 t5 t6 t8 : Value) (w : World) : Prop :=
  boI .eql t5 (.int .u8 23) (fun t274 w =>
  gd t274 true (fun K w => K t8 w) (fun t276 w =>
  gd t274 true (boI .eql t276 (.int .i64 0)) (fun t277 w =>
  pk t274 t277 (.bool false) (fun t278 w =>
  ifb t278
  (cl Tryz.prog 102 #[t0] (fun t280 w =>
  K t280 w) w)
  (boI .eql t5 (.int .u8 24) (fun t283 w =>
  gd t283 true (fun K w => K t8 w) (fun t285 w =>
  gd t283 true (boI .eql t285 (.int .i64 1)) (fun t286 w =>
  pk t283 t286 (.bool false) (fun t287 w =>
  ifb t287
  (ixs 1 t6 (.int .i64 0) (fun t290 w =>
  ld1 t290 (fun t291 w =>
  cl Tryz.prog 103 #[t0, t291] (fun t292 w =>
  K t292 w) w) w) w)
  (s25_p1 K w)) w) w) w) w)) w) w) w) w
def s25_p26_den (K : Value → World → Prop) : (Nat → Value) → World → Prop := denL Tryz.prog [(cd (Tryz.f25.body.getD .skip) [1, 1, 1, 1, 1, 1, 0, 0, 1, 1, 1, 1, 1, 1, 1, 1, 1, 1, 1, 1, 1, 1, 1, 1, 1, 1, 1, 1, 1, 1, 1, 1, 1, 1, 1, 1, 1, 1, 1, 1, 0]), (cd (Tryz.f25.body.getD .skip) [1, 1, 1, 1, 1, 1, 0, 0, 1, 1, 1, 1, 1, 1, 1, 1, 1, 1, 1, 1, 1, 1, 1, 1, 1, 1, 1, 1, 1, 1, 1, 1, 1, 1, 1, 1, 1, 1, 1, 1, 1])] (s25_p1_den K) (fun i => (bif Nat.beq i 0 then (s25_p1_den K) else (fun _ _ => False))) (s25_R K)
theorem s25_p26_ok (K : Value → World → Prop) (s : Nat → Value) (w : World) (h : s25_p26 K (s 0) (s 5) (s 6) (s 8) w) : Tr (s25_p26_den K s w) :=
  tr_simple (P := Tryz.prog) (codes := [(cd (Tryz.f25.body.getD .skip) [1, 1, 1, 1, 1, 1, 0, 0, 1, 1, 1, 1, 1, 1, 1, 1, 1, 1, 1, 1, 1, 1, 1, 1, 1, 1, 1, 1, 1, 1, 1, 1, 1, 1, 1, 1, 1, 1, 1, 1, 0]), (cd (Tryz.f25.body.getD .skip) [1, 1, 1, 1, 1, 1, 0, 0, 1, 1, 1, 1, 1, 1, 1, 1, 1, 1, 1, 1, 1, 1, 1, 1, 1, 1, 1, 1, 1, 1, 1, 1, 1, 1, 1, 1, 1, 1, 1, 1, 1])]) (N := (fun s w => s25_p1 K w)) (N' := (s25_p1_den K)) (X := (fun i => (bif Nat.beq i 0 then (fun s w => s25_p1 K w) else (fun _ _ => False)))) (X' := (fun i => (bif Nat.beq i 0 then (s25_p1_den K) else (fun _ _ => False)))) (R := s25_R K) (s := s) (w := w) (p := s25_p26 K (s 0) (s 5) (s 6) (s 8) w) (q := s25_p26_den K s w) (fun s w h => s25_p1_ok K s w @h) (fun i => (tr_bif (fun s w h => s25_p1_ok K s w @h) tr_id)) (by kernel_rfl) (by kernel_rfl) @h
def s25_p27 (K : Value → World → Prop) (t0 t5 t6 t8 t254 : Value) (w : World) : Prop :=
  ifb t254
  (s25_p25 K t0 t6 w)
  (s25_p26 K t0 t5 t6 t8 w)
def s25_p27_den (K : Value → World → Prop) : (Nat → Value) → World → Prop := fun s w => ifb (ev s (.tmp 254)) ((s25_p25_den K) s w) ((s25_p26_den K) s w)
theorem s25_p27_ok (K : Value → World → Prop) (s : Nat → Value) (w : World) (h : s25_p27 K (s 0) (s 5) (s 6) (s 8) (s 254) w) : Tr (s25_p27_den K s w) :=
  tr_cond (v := ev s (.tmp 254)) (a := s25_p25 K (s 0) (s 6) w) (a' := s25_p25_den K s w) (b := s25_p26 K (s 0) (s 5) (s 6) (s 8) w) (b' := s25_p26_den K s w) (p := s25_p27 K (s 0) (s 5) (s 6) (s 8) (s 254) w) (q := s25_p27_den K s w) (s25_p25_ok K s w) (s25_p26_ok K s w) (by kernel_rfl) (by kernel_rfl) @h
def s25_p28 (K : Value → World → Prop) (t0 t5 t6 t8 : Value) (w : World) : Prop :=
  boI .eql t5 (.int .u8 22) (fun t256 w =>
  gd t256 true (fun K w => K t6 w) (fun t258 w =>
  gd t256 true (cl Tryz.prog 85 #[t258, (.int .i64 2)]) (fun t259 w =>
  pk t256 t259 (.bool false) (fun t260 w =>
  s25_p27 K t0 t5 t6 t8 t260 w) w) w) w) w
def s25_p28_den (K : Value → World → Prop) : (Nat → Value) → World → Prop := denL Tryz.prog [(cd (Tryz.f25.body.getD .skip) [1, 1, 1, 1, 1, 1, 0, 0, 1, 1, 1, 1, 1, 1, 1, 1, 1, 1, 1, 1, 1, 1, 1, 1, 1, 1, 1, 1, 1, 1, 1, 1, 1, 1, 1, 1, 1, 1, 0])] (s25_p27_den K) (fun i => (bif Nat.beq i 0 then (s25_p1_den K) else (fun _ _ => False))) (s25_R K)
theorem s25_p28_ok (K : Value → World → Prop) (s : Nat → Value) (w : World) (h : s25_p28 K (s 0) (s 5) (s 6) (s 8) w) : Tr (s25_p28_den K s w) :=
  tr_simple (P := Tryz.prog) (codes := [(cd (Tryz.f25.body.getD .skip) [1, 1, 1, 1, 1, 1, 0, 0, 1, 1, 1, 1, 1, 1, 1, 1, 1, 1, 1, 1, 1, 1, 1, 1, 1, 1, 1, 1, 1, 1, 1, 1, 1, 1, 1, 1, 1, 1, 0])]) (N := (fun s w => s25_p27 K (s 0) (s 5) (s 6) (s 8) (s 254) w)) (N' := (s25_p27_den K)) (X := (fun i => (bif Nat.beq i 0 then (fun s w => s25_p1 K w) else (fun _ _ => False)))) (X' := (fun i => (bif Nat.beq i 0 then (s25_p1_den K) else (fun _ _ => False)))) (R := s25_R K) (s := s) (w := w) (p := s25_p28 K (s 0) (s 5) (s 6) (s 8) w) (q := s25_p28_den K s w) (fun s w h => s25_p27_ok K s w @h) (fun i => (tr_bif (fun s w h => s25_p1_ok K s w @h) tr_id)) (by kernel_rfl) (by kernel_rfl) @h
def s25_p29 (K : Value → World → Prop) (t0 t5 t6 t8 t233 : Value) (w : World) : Prop :=
  ifb t233
  (s25_p23 K t0 t6 w)
  (s25_p28 K t0 t5 t6 t8 w)
def s25_p29_den (K : Value → World → Prop) : (Nat → Value) → World → Prop := fun s w => ifb (ev s (.tmp 233)) ((s25_p23_den K) s w) ((s25_p28_den K) s w)
theorem s25_p29_ok (K : Value → World → Prop) (s : Nat → Value) (w : World) (h : s25_p29 K (s 0) (s 5) (s 6) (s 8) (s 233) w) : Tr (s25_p29_den K s w) :=
  tr_cond (v := ev s (.tmp 233)) (a := s25_p23 K (s 0) (s 6) w) (a' := s25_p23_den K s w) (b := s25_p28 K (s 0) (s 5) (s 6) (s 8) w) (b' := s25_p28_den K s w) (p := s25_p29 K (s 0) (s 5) (s 6) (s 8) (s 233) w) (q := s25_p29_den K s w) (s25_p23_ok K s w) (s25_p28_ok K s w) (by kernel_rfl) (by kernel_rfl) @h
def s25_p30 (K : Value → World → Prop) (t0 t5 t6 t8 : Value) (w : World) : Prop :=
  boI .eql t5 (.int .u8 21) (fun t235 w =>
  gd t235 true (fun K w => K t8 w) (fun t237 w =>
  gd t235 true (boI .eql t237 (.int .i64 4)) (fun t238 w =>
  pk t235 t238 (.bool false) (fun t239 w =>
  s25_p29 K t0 t5 t6 t8 t239 w) w) w) w) w
def s25_p30_den (K : Value → World → Prop) : (Nat → Value) → World → Prop := denL Tryz.prog [(cd (Tryz.f25.body.getD .skip) [1, 1, 1, 1, 1, 1, 0, 0, 1, 1, 1, 1, 1, 1, 1, 1, 1, 1, 1, 1, 1, 1, 1, 1, 1, 1, 1, 1, 1, 1, 1, 1, 1, 1, 1, 1, 0])] (s25_p29_den K) (fun i => (bif Nat.beq i 0 then (s25_p1_den K) else (fun _ _ => False))) (s25_R K)
theorem s25_p30_ok (K : Value → World → Prop) (s : Nat → Value) (w : World) (h : s25_p30 K (s 0) (s 5) (s 6) (s 8) w) : Tr (s25_p30_den K s w) :=
  tr_simple (P := Tryz.prog) (codes := [(cd (Tryz.f25.body.getD .skip) [1, 1, 1, 1, 1, 1, 0, 0, 1, 1, 1, 1, 1, 1, 1, 1, 1, 1, 1, 1, 1, 1, 1, 1, 1, 1, 1, 1, 1, 1, 1, 1, 1, 1, 1, 1, 0])]) (N := (fun s w => s25_p29 K (s 0) (s 5) (s 6) (s 8) (s 233) w)) (N' := (s25_p29_den K)) (X := (fun i => (bif Nat.beq i 0 then (fun s w => s25_p1 K w) else (fun _ _ => False)))) (X' := (fun i => (bif Nat.beq i 0 then (s25_p1_den K) else (fun _ _ => False)))) (R := s25_R K) (s := s) (w := w) (p := s25_p30 K (s 0) (s 5) (s 6) (s 8) w) (q := s25_p30_den K s w) (fun s w h => s25_p29_ok K s w @h) (fun i => (tr_bif (fun s w h => s25_p1_ok K s w @h) tr_id)) (by kernel_rfl) (by kernel_rfl) @h
def s25_p31 (K : Value → World → Prop) (t0 t5 t6 t8 t203 : Value) (w : World) : Prop :=
  ifb t203
  (s25_p21 K t0 t5 w)
  (s25_p30 K t0 t5 t6 t8 w)
def s25_p31_den (K : Value → World → Prop) : (Nat → Value) → World → Prop := fun s w => ifb (ev s (.tmp 203)) ((s25_p21_den K) s w) ((s25_p30_den K) s w)
theorem s25_p31_ok (K : Value → World → Prop) (s : Nat → Value) (w : World) (h : s25_p31 K (s 0) (s 5) (s 6) (s 8) (s 203) w) : Tr (s25_p31_den K s w) :=
  tr_cond (v := ev s (.tmp 203)) (a := s25_p21 K (s 0) (s 5) w) (a' := s25_p21_den K s w) (b := s25_p30 K (s 0) (s 5) (s 6) (s 8) w) (b' := s25_p30_den K s w) (p := s25_p31 K (s 0) (s 5) (s 6) (s 8) (s 203) w) (q := s25_p31_den K s w) (s25_p21_ok K s w) (s25_p30_ok K s w) (by kernel_rfl) (by kernel_rfl) @h
def s25_p32 (K : Value → World → Prop) (t0 t5 t6 t8 : Value) (w : World) : Prop :=
  boI .eql t5 (.int .u8 20) (fun t205 w =>
  gd t205 true (fun K w => K t8 w) (fun t207 w =>
  gd t205 true (boI .eql t207 (.int .i64 0)) (fun t208 w =>
  pk t205 t208 (.bool false) (fun t209 w =>
  s25_p31 K t0 t5 t6 t8 t209 w) w) w) w) w
def s25_p32_den (K : Value → World → Prop) : (Nat → Value) → World → Prop := denL Tryz.prog [(cd (Tryz.f25.body.getD .skip) [1, 1, 1, 1, 1, 1, 0, 0, 1, 1, 1, 1, 1, 1, 1, 1, 1, 1, 1, 1, 1, 1, 1, 1, 1, 1, 1, 1, 1, 1, 1, 1, 1, 1, 0])] (s25_p31_den K) (fun i => (bif Nat.beq i 0 then (s25_p1_den K) else (fun _ _ => False))) (s25_R K)
theorem s25_p32_ok (K : Value → World → Prop) (s : Nat → Value) (w : World) (h : s25_p32 K (s 0) (s 5) (s 6) (s 8) w) : Tr (s25_p32_den K s w) :=
  tr_simple (P := Tryz.prog) (codes := [(cd (Tryz.f25.body.getD .skip) [1, 1, 1, 1, 1, 1, 0, 0, 1, 1, 1, 1, 1, 1, 1, 1, 1, 1, 1, 1, 1, 1, 1, 1, 1, 1, 1, 1, 1, 1, 1, 1, 1, 1, 0])]) (N := (fun s w => s25_p31 K (s 0) (s 5) (s 6) (s 8) (s 203) w)) (N' := (s25_p31_den K)) (X := (fun i => (bif Nat.beq i 0 then (fun s w => s25_p1 K w) else (fun _ _ => False)))) (X' := (fun i => (bif Nat.beq i 0 then (s25_p1_den K) else (fun _ _ => False)))) (R := s25_R K) (s := s) (w := w) (p := s25_p32 K (s 0) (s 5) (s 6) (s 8) w) (q := s25_p32_den K s w) (fun s w h => s25_p31_ok K s w @h) (fun i => (tr_bif (fun s w h => s25_p1_ok K s w @h) tr_id)) (by kernel_rfl) (by kernel_rfl) @h
def s25_p33 (K : Value → World → Prop) (t0 t5 t6 t8 t191 : Value) (w : World) : Prop :=
  ifb t191
  (s25_p19 K t0 t6 w)
  (s25_p32 K t0 t5 t6 t8 w)
def s25_p33_den (K : Value → World → Prop) : (Nat → Value) → World → Prop := fun s w => ifb (ev s (.tmp 191)) ((s25_p19_den K) s w) ((s25_p32_den K) s w)
theorem s25_p33_ok (K : Value → World → Prop) (s : Nat → Value) (w : World) (h : s25_p33 K (s 0) (s 5) (s 6) (s 8) (s 191) w) : Tr (s25_p33_den K s w) :=
  tr_cond (v := ev s (.tmp 191)) (a := s25_p19 K (s 0) (s 6) w) (a' := s25_p19_den K s w) (b := s25_p32 K (s 0) (s 5) (s 6) (s 8) w) (b' := s25_p32_den K s w) (p := s25_p33 K (s 0) (s 5) (s 6) (s 8) (s 191) w) (q := s25_p33_den K s w) (s25_p19_ok K s w) (s25_p32_ok K s w) (by kernel_rfl) (by kernel_rfl) @h
def s25_p34 (K : Value → World → Prop) (t0 t5 t6 t8 : Value) (w : World) : Prop :=
  boI .eql t5 (.int .u8 19) (fun t193 w =>
  gd t193 true (fun K w => K t8 w) (fun t195 w =>
  gd t193 true (boI .eql t195 (.int .i64 1)) (fun t196 w =>
  pk t193 t196 (.bool false) (fun t197 w =>
  s25_p33 K t0 t5 t6 t8 t197 w) w) w) w) w
def s25_p34_den (K : Value → World → Prop) : (Nat → Value) → World → Prop := denL Tryz.prog [(cd (Tryz.f25.body.getD .skip) [1, 1, 1, 1, 1, 1, 0, 0, 1, 1, 1, 1, 1, 1, 1, 1, 1, 1, 1, 1, 1, 1, 1, 1, 1, 1, 1, 1, 1, 1, 1, 1, 0])] (s25_p33_den K) (fun i => (bif Nat.beq i 0 then (s25_p1_den K) else (fun _ _ => False))) (s25_R K)
theorem s25_p34_ok (K : Value → World → Prop) (s : Nat → Value) (w : World) (h : s25_p34 K (s 0) (s 5) (s 6) (s 8) w) : Tr (s25_p34_den K s w) :=
  tr_simple (P := Tryz.prog) (codes := [(cd (Tryz.f25.body.getD .skip) [1, 1, 1, 1, 1, 1, 0, 0, 1, 1, 1, 1, 1, 1, 1, 1, 1, 1, 1, 1, 1, 1, 1, 1, 1, 1, 1, 1, 1, 1, 1, 1, 0])]) (N := (fun s w => s25_p33 K (s 0) (s 5) (s 6) (s 8) (s 191) w)) (N' := (s25_p33_den K)) (X := (fun i => (bif Nat.beq i 0 then (fun s w => s25_p1 K w) else (fun _ _ => False)))) (X' := (fun i => (bif Nat.beq i 0 then (s25_p1_den K) else (fun _ _ => False)))) (R := s25_R K) (s := s) (w := w) (p := s25_p34 K (s 0) (s 5) (s 6) (s 8) w) (q := s25_p34_den K s w) (fun s w h => s25_p33_ok K s w @h) (fun i => (tr_bif (fun s w h => s25_p1_ok K s w @h) tr_id)) (by kernel_rfl) (by kernel_rfl) @h
def s25_p35 (K : Value → World → Prop) (t0 t5 t6 t8 t176 : Value) (w : World) : Prop :=
  ifb t176
  (s25_p18 K t0 t6 w)
  (s25_p34 K t0 t5 t6 t8 w)
def s25_p35_den (K : Value → World → Prop) : (Nat → Value) → World → Prop := fun s w => ifb (ev s (.tmp 176)) ((s25_p18_den K) s w) ((s25_p34_den K) s w)
theorem s25_p35_ok (K : Value → World → Prop) (s : Nat → Value) (w : World) (h : s25_p35 K (s 0) (s 5) (s 6) (s 8) (s 176) w) : Tr (s25_p35_den K s w) :=
  tr_cond (v := ev s (.tmp 176)) (a := s25_p18 K (s 0) (s 6) w) (a' := s25_p18_den K s w) (b := s25_p34 K (s 0) (s 5) (s 6) (s 8) w) (b' := s25_p34_den K s w) (p := s25_p35 K (s 0) (s 5) (s 6) (s 8) (s 176) w) (q := s25_p35_den K s w) (s25_p18_ok K s w) (s25_p34_ok K s w) (by kernel_rfl) (by kernel_rfl) @h
def s25_p36 (K : Value → World → Prop) (t0 t5 t6 t8 : Value) (w : World) : Prop :=
  boI .eql t5 (.int .u8 18) (fun t178 w =>
  gd t178 true (fun K w => K t8 w) (fun t180 w =>
  gd t178 true (boI .eql t180 (.int .i64 2)) (fun t181 w =>
  pk t178 t181 (.bool false) (fun t182 w =>
  s25_p35 K t0 t5 t6 t8 t182 w) w) w) w) w
def s25_p36_den (K : Value → World → Prop) : (Nat → Value) → World → Prop := denL Tryz.prog [(cd (Tryz.f25.body.getD .skip) [1, 1, 1, 1, 1, 1, 0, 0, 1, 1, 1, 1, 1, 1, 1, 1, 1, 1, 1, 1, 1, 1, 1, 1, 1, 1, 1, 1, 1, 1, 0])] (s25_p35_den K) (fun i => (bif Nat.beq i 0 then (s25_p1_den K) else (fun _ _ => False))) (s25_R K)
theorem s25_p36_ok (K : Value → World → Prop) (s : Nat → Value) (w : World) (h : s25_p36 K (s 0) (s 5) (s 6) (s 8) w) : Tr (s25_p36_den K s w) :=
  tr_simple (P := Tryz.prog) (codes := [(cd (Tryz.f25.body.getD .skip) [1, 1, 1, 1, 1, 1, 0, 0, 1, 1, 1, 1, 1, 1, 1, 1, 1, 1, 1, 1, 1, 1, 1, 1, 1, 1, 1, 1, 1, 1, 0])]) (N := (fun s w => s25_p35 K (s 0) (s 5) (s 6) (s 8) (s 176) w)) (N' := (s25_p35_den K)) (X := (fun i => (bif Nat.beq i 0 then (fun s w => s25_p1 K w) else (fun _ _ => False)))) (X' := (fun i => (bif Nat.beq i 0 then (s25_p1_den K) else (fun _ _ => False)))) (R := s25_R K) (s := s) (w := w) (p := s25_p36 K (s 0) (s 5) (s 6) (s 8) w) (q := s25_p36_den K s w) (fun s w h => s25_p35_ok K s w @h) (fun i => (tr_bif (fun s w h => s25_p1_ok K s w @h) tr_id)) (by kernel_rfl) (by kernel_rfl) @h
def s25_p37 (K : Value → World → Prop) (t0 t5 t6 t8 t161 : Value) (w : World) : Prop :=
  ifb t161
  (s25_p16 K t0 t6 w)
  (s25_p36 K t0 t5 t6 t8 w)
def s25_p37_den (K : Value → World → Prop) : (Nat → Value) → World → Prop := fun s w => ifb (ev s (.tmp 161)) ((s25_p16_den K) s w) ((s25_p36_den K) s w)
theorem s25_p37_ok (K : Value → World → Prop) (s : Nat → Value) (w : World) (h : s25_p37 K (s 0) (s 5) (s 6) (s 8) (s 161) w) : Tr (s25_p37_den K s w) :=
  tr_cond (v := ev s (.tmp 161)) (a := s25_p16 K (s 0) (s 6) w) (a' := s25_p16_den K s w) (b := s25_p36 K (s 0) (s 5) (s 6) (s 8) w) (b' := s25_p36_den K s w) (p := s25_p37 K (s 0) (s 5) (s 6) (s 8) (s 161) w) (q := s25_p37_den K s w) (s25_p16_ok K s w) (s25_p36_ok K s w) (by kernel_rfl) (by kernel_rfl) @h
def s25_p38 (K : Value → World → Prop) (t0 t5 t6 t8 : Value) (w : World) : Prop :=
  boI .eql t5 (.int .u8 17) (fun t163 w =>
  gd t163 true (fun K w => K t8 w) (fun t165 w =>
  gd t163 true (boI .eql t165 (.int .i64 2)) (fun t166 w =>
  pk t163 t166 (.bool false) (fun t167 w =>
  s25_p37 K t0 t5 t6 t8 t167 w) w) w) w) w
def s25_p38_den (K : Value → World → Prop) : (Nat → Value) → World → Prop := denL Tryz.prog [(cd (Tryz.f25.body.getD .skip) [1, 1, 1, 1, 1, 1, 0, 0, 1, 1, 1, 1, 1, 1, 1, 1, 1, 1, 1, 1, 1, 1, 1, 1, 1, 1, 1, 1, 0])] (s25_p37_den K) (fun i => (bif Nat.beq i 0 then (s25_p1_den K) else (fun _ _ => False))) (s25_R K)
theorem s25_p38_ok (K : Value → World → Prop) (s : Nat → Value) (w : World) (h : s25_p38 K (s 0) (s 5) (s 6) (s 8) w) : Tr (s25_p38_den K s w) :=
  tr_simple (P := Tryz.prog) (codes := [(cd (Tryz.f25.body.getD .skip) [1, 1, 1, 1, 1, 1, 0, 0, 1, 1, 1, 1, 1, 1, 1, 1, 1, 1, 1, 1, 1, 1, 1, 1, 1, 1, 1, 1, 0])]) (N := (fun s w => s25_p37 K (s 0) (s 5) (s 6) (s 8) (s 161) w)) (N' := (s25_p37_den K)) (X := (fun i => (bif Nat.beq i 0 then (fun s w => s25_p1 K w) else (fun _ _ => False)))) (X' := (fun i => (bif Nat.beq i 0 then (s25_p1_den K) else (fun _ _ => False)))) (R := s25_R K) (s := s) (w := w) (p := s25_p38 K (s 0) (s 5) (s 6) (s 8) w) (q := s25_p38_den K s w) (fun s w h => s25_p37_ok K s w @h) (fun i => (tr_bif (fun s w h => s25_p1_ok K s w @h) tr_id)) (by kernel_rfl) (by kernel_rfl) @h
def s25_p39 (K : Value → World → Prop) (t0 t5 t6 t8 t149 : Value) (w : World) : Prop :=
  ifb t149
  (s25_p14 K t0 t6 w)
  (s25_p38 K t0 t5 t6 t8 w)
def s25_p39_den (K : Value → World → Prop) : (Nat → Value) → World → Prop := fun s w => ifb (ev s (.tmp 149)) ((s25_p14_den K) s w) ((s25_p38_den K) s w)
theorem s25_p39_ok (K : Value → World → Prop) (s : Nat → Value) (w : World) (h : s25_p39 K (s 0) (s 5) (s 6) (s 8) (s 149) w) : Tr (s25_p39_den K s w) :=
  tr_cond (v := ev s (.tmp 149)) (a := s25_p14 K (s 0) (s 6) w) (a' := s25_p14_den K s w) (b := s25_p38 K (s 0) (s 5) (s 6) (s 8) w) (b' := s25_p38_den K s w) (p := s25_p39 K (s 0) (s 5) (s 6) (s 8) (s 149) w) (q := s25_p39_den K s w) (s25_p14_ok K s w) (s25_p38_ok K s w) (by kernel_rfl) (by kernel_rfl) @h
def s25_p40 (K : Value → World → Prop) (t0 t5 t6 t8 : Value) (w : World) : Prop :=
  boI .eql t5 (.int .u8 16) (fun t151 w =>
  gd t151 true (fun K w => K t8 w) (fun t153 w =>
  gd t151 true (boI .eql t153 (.int .i64 1)) (fun t154 w =>
  pk t151 t154 (.bool false) (fun t155 w =>
  s25_p39 K t0 t5 t6 t8 t155 w) w) w) w) w
def s25_p40_den (K : Value → World → Prop) : (Nat → Value) → World → Prop := denL Tryz.prog [(cd (Tryz.f25.body.getD .skip) [1, 1, 1, 1, 1, 1, 0, 0, 1, 1, 1, 1, 1, 1, 1, 1, 1, 1, 1, 1, 1, 1, 1, 1, 1, 1, 0])] (s25_p39_den K) (fun i => (bif Nat.beq i 0 then (s25_p1_den K) else (fun _ _ => False))) (s25_R K)
theorem s25_p40_ok (K : Value → World → Prop) (s : Nat → Value) (w : World) (h : s25_p40 K (s 0) (s 5) (s 6) (s 8) w) : Tr (s25_p40_den K s w) :=
  tr_simple (P := Tryz.prog) (codes := [(cd (Tryz.f25.body.getD .skip) [1, 1, 1, 1, 1, 1, 0, 0, 1, 1, 1, 1, 1, 1, 1, 1, 1, 1, 1, 1, 1, 1, 1, 1, 1, 1, 0])]) (N := (fun s w => s25_p39 K (s 0) (s 5) (s 6) (s 8) (s 149) w)) (N' := (s25_p39_den K)) (X := (fun i => (bif Nat.beq i 0 then (fun s w => s25_p1 K w) else (fun _ _ => False)))) (X' := (fun i => (bif Nat.beq i 0 then (s25_p1_den K) else (fun _ _ => False)))) (R := s25_R K) (s := s) (w := w) (p := s25_p40 K (s 0) (s 5) (s 6) (s 8) w) (q := s25_p40_den K s w) (fun s w h => s25_p39_ok K s w @h) (fun i => (tr_bif (fun s w h => s25_p1_ok K s w @h) tr_id)) (by kernel_rfl) (by kernel_rfl) @h
def s25_p41 (K : Value → World → Prop) (t0 t5 t6 t8 t140 : Value) (w : World) : Prop :=
  ifb t140
  (s25_p13 K t0 w)
  (s25_p40 K t0 t5 t6 t8 w)
def s25_p41_den (K : Value → World → Prop) : (Nat → Value) → World → Prop := fun s w => ifb (ev s (.tmp 140)) ((s25_p13_den K) s w) ((s25_p40_den K) s w)
theorem s25_p41_ok (K : Value → World → Prop) (s : Nat → Value) (w : World) (h : s25_p41 K (s 0) (s 5) (s 6) (s 8) (s 140) w) : Tr (s25_p41_den K s w) :=
  tr_cond (v := ev s (.tmp 140)) (a := s25_p13 K (s 0) w) (a' := s25_p13_den K s w) (b := s25_p40 K (s 0) (s 5) (s 6) (s 8) w) (b' := s25_p40_den K s w) (p := s25_p41 K (s 0) (s 5) (s 6) (s 8) (s 140) w) (q := s25_p41_den K s w) (s25_p13_ok K s w) (s25_p40_ok K s w) (by kernel_rfl) (by kernel_rfl) @h
def s25_p42 (K : Value → World → Prop) (t0 t5 t6 t8 : Value) (w : World) : Prop :=
  boI .eql t5 (.int .u8 9) (fun t142 w =>
  gd t142 true (fun K w => K t8 w) (fun t144 w =>
  gd t142 true (boI .eql t144 (.int .i64 0)) (fun t145 w =>
  pk t142 t145 (.bool false) (fun t146 w =>
  s25_p41 K t0 t5 t6 t8 t146 w) w) w) w) w
def s25_p42_den (K : Value → World → Prop) : (Nat → Value) → World → Prop := denL Tryz.prog [(cd (Tryz.f25.body.getD .skip) [1, 1, 1, 1, 1, 1, 0, 0, 1, 1, 1, 1, 1, 1, 1, 1, 1, 1, 1, 1, 1, 1, 1, 1, 0])] (s25_p41_den K) (fun i => (bif Nat.beq i 0 then (s25_p1_den K) else (fun _ _ => False))) (s25_R K)
theorem s25_p42_ok (K : Value → World → Prop) (s : Nat → Value) (w : World) (h : s25_p42 K (s 0) (s 5) (s 6) (s 8) w) : Tr (s25_p42_den K s w) :=
  tr_simple (P := Tryz.prog) (codes := [(cd (Tryz.f25.body.getD .skip) [1, 1, 1, 1, 1, 1, 0, 0, 1, 1, 1, 1, 1, 1, 1, 1, 1, 1, 1, 1, 1, 1, 1, 1, 0])]) (N := (fun s w => s25_p41 K (s 0) (s 5) (s 6) (s 8) (s 140) w)) (N' := (s25_p41_den K)) (X := (fun i => (bif Nat.beq i 0 then (fun s w => s25_p1 K w) else (fun _ _ => False)))) (X' := (fun i => (bif Nat.beq i 0 then (s25_p1_den K) else (fun _ _ => False)))) (R := s25_R K) (s := s) (w := w) (p := s25_p42 K (s 0) (s 5) (s 6) (s 8) w) (q := s25_p42_den K s w) (fun s w h => s25_p41_ok K s w @h) (fun i => (tr_bif (fun s w h => s25_p1_ok K s w @h) tr_id)) (by kernel_rfl) (by kernel_rfl) @h
def s25_p43 (K : Value → World → Prop) (t0 t5 t6 t8 t127 : Value) (w : World) : Prop :=
  ifb t127
  (s25_p12 K t0 t5 t6 w)
  (s25_p42 K t0 t5 t6 t8 w)
def s25_p43_den (K : Value → World → Prop) : (Nat → Value) → World → Prop := fun s w => ifb (ev s (.tmp 127)) ((s25_p12_den K) s w) ((s25_p42_den K) s w)
theorem s25_p43_ok (K : Value → World → Prop) (s : Nat → Value) (w : World) (h : s25_p43 K (s 0) (s 5) (s 6) (s 8) (s 127) w) : Tr (s25_p43_den K s w) :=
  tr_cond (v := ev s (.tmp 127)) (a := s25_p12 K (s 0) (s 5) (s 6) w) (a' := s25_p12_den K s w) (b := s25_p42 K (s 0) (s 5) (s 6) (s 8) w) (b' := s25_p42_den K s w) (p := s25_p43 K (s 0) (s 5) (s 6) (s 8) (s 127) w) (q := s25_p43_den K s w) (s25_p12_ok K s w) (s25_p42_ok K s w) (by kernel_rfl) (by kernel_rfl) @h
def s25_p44 (K : Value → World → Prop) (t0 t5 t6 t8 : Value) (w : World) : Prop :=
  boI .eql t5 (.int .u8 8) (fun t129 w =>
  gd t129 true (fun K w => K t8 w) (fun t131 w =>
  gd t129 true (boI .eql t131 (.int .i64 1)) (fun t132 w =>
  pk t129 t132 (.bool false) (fun t133 w =>
  s25_p43 K t0 t5 t6 t8 t133 w) w) w) w) w
def s25_p44_den (K : Value → World → Prop) : (Nat → Value) → World → Prop := denL Tryz.prog [(cd (Tryz.f25.body.getD .skip) [1, 1, 1, 1, 1, 1, 0, 0, 1, 1, 1, 1, 1, 1, 1, 1, 1, 1, 1, 1, 1, 1, 0])] (s25_p43_den K) (fun i => (bif Nat.beq i 0 then (s25_p1_den K) else (fun _ _ => False))) (s25_R K)
theorem s25_p44_ok (K : Value → World → Prop) (s : Nat → Value) (w : World) (h : s25_p44 K (s 0) (s 5) (s 6) (s 8) w) : Tr (s25_p44_den K s w) :=
  tr_simple (P := Tryz.prog) (codes := [(cd (Tryz.f25.body.getD .skip) [1, 1, 1, 1, 1, 1, 0, 0, 1, 1, 1, 1, 1, 1, 1, 1, 1, 1, 1, 1, 1, 1, 0])]) (N := (fun s w => s25_p43 K (s 0) (s 5) (s 6) (s 8) (s 127) w)) (N' := (s25_p43_den K)) (X := (fun i => (bif Nat.beq i 0 then (fun s w => s25_p1 K w) else (fun _ _ => False)))) (X' := (fun i => (bif Nat.beq i 0 then (s25_p1_den K) else (fun _ _ => False)))) (R := s25_R K) (s := s) (w := w) (p := s25_p44 K (s 0) (s 5) (s 6) (s 8) w) (q := s25_p44_den K s w) (fun s w h => s25_p43_ok K s w @h) (fun i => (tr_bif (fun s w h => s25_p1_ok K s w @h) tr_id)) (by kernel_rfl) (by kernel_rfl) @h
def s25_p45 (K : Value → World → Prop) (t0 t5 t6 t8 t115 : Value) (w : World) : Prop :=
  ifb t115
  (s25_p11 K t0 t6 w)
  (s25_p44 K t0 t5 t6 t8 w)
def s25_p45_den (K : Value → World → Prop) : (Nat → Value) → World → Prop := fun s w => ifb (ev s (.tmp 115)) ((s25_p11_den K) s w) ((s25_p44_den K) s w)
theorem s25_p45_ok (K : Value → World → Prop) (s : Nat → Value) (w : World) (h : s25_p45 K (s 0) (s 5) (s 6) (s 8) (s 115) w) : Tr (s25_p45_den K s w) :=
  tr_cond (v := ev s (.tmp 115)) (a := s25_p11 K (s 0) (s 6) w) (a' := s25_p11_den K s w) (b := s25_p44 K (s 0) (s 5) (s 6) (s 8) w) (b' := s25_p44_den K s w) (p := s25_p45 K (s 0) (s 5) (s 6) (s 8) (s 115) w) (q := s25_p45_den K s w) (s25_p11_ok K s w) (s25_p44_ok K s w) (by kernel_rfl) (by kernel_rfl) @h
def s25_p46 (K : Value → World → Prop) (t0 t5 t6 t8 : Value) (w : World) : Prop :=
  boI .eql t5 (.int .u8 7) (fun t117 w =>
  gd t117 true (fun K w => K t8 w) (fun t119 w =>
  gd t117 true (boI .eql t119 (.int .i64 1)) (fun t120 w =>
  pk t117 t120 (.bool false) (fun t121 w =>
  s25_p45 K t0 t5 t6 t8 t121 w) w) w) w) w
def s25_p46_den (K : Value → World → Prop) : (Nat → Value) → World → Prop := denL Tryz.prog [(cd (Tryz.f25.body.getD .skip) [1, 1, 1, 1, 1, 1, 0, 0, 1, 1, 1, 1, 1, 1, 1, 1, 1, 1, 1, 1, 0])] (s25_p45_den K) (fun i => (bif Nat.beq i 0 then (s25_p1_den K) else (fun _ _ => False))) (s25_R K)
theorem s25_p46_ok (K : Value → World → Prop) (s : Nat → Value) (w : World) (h : s25_p46 K (s 0) (s 5) (s 6) (s 8) w) : Tr (s25_p46_den K s w) :=
  tr_simple (P := Tryz.prog) (codes := [(cd (Tryz.f25.body.getD .skip) [1, 1, 1, 1, 1, 1, 0, 0, 1, 1, 1, 1, 1, 1, 1, 1, 1, 1, 1, 1, 0])]) (N := (fun s w => s25_p45 K (s 0) (s 5) (s 6) (s 8) (s 115) w)) (N' := (s25_p45_den K)) (X := (fun i => (bif Nat.beq i 0 then (fun s w => s25_p1 K w) else (fun _ _ => False)))) (X' := (fun i => (bif Nat.beq i 0 then (s25_p1_den K) else (fun _ _ => False)))) (R := s25_R K) (s := s) (w := w) (p := s25_p46 K (s 0) (s 5) (s 6) (s 8) w) (q := s25_p46_den K s w) (fun s w h => s25_p45_ok K s w @h) (fun i => (tr_bif (fun s w h => s25_p1_ok K s w @h) tr_id)) (by kernel_rfl) (by kernel_rfl) @h
def s25_p47 (K : Value → World → Prop) (t0 t5 t6 t8 t97 : Value) (w : World) : Prop :=
  ifb t97
  (s25_p10 K t0 t6 w)
  (s25_p46 K t0 t5 t6 t8 w)
def s25_p47_den (K : Value → World → Prop) : (Nat → Value) → World → Prop := fun s w => ifb (ev s (.tmp 97)) ((s25_p10_den K) s w) ((s25_p46_den K) s w)
theorem s25_p47_ok (K : Value → World → Prop) (s : Nat → Value) (w : World) (h : s25_p47 K (s 0) (s 5) (s 6) (s 8) (s 97) w) : Tr (s25_p47_den K s w) :=
  tr_cond (v := ev s (.tmp 97)) (a := s25_p10 K (s 0) (s 6) w) (a' := s25_p10_den K s w) (b := s25_p46 K (s 0) (s 5) (s 6) (s 8) w) (b' := s25_p46_den K s w) (p := s25_p47 K (s 0) (s 5) (s 6) (s 8) (s 97) w) (q := s25_p47_den K s w) (s25_p10_ok K s w) (s25_p46_ok K s w) (by kernel_rfl) (by kernel_rfl) @h
def s25_p48 (K : Value → World → Prop) (t0 t5 t6 t8 : Value) (w : World) : Prop :=
  boI .eql t5 (.int .u8 6) (fun t99 w =>
  gd t99 true (fun K w => K t8 w) (fun t101 w =>
  gd t99 true (boI .eql t101 (.int .i64 3)) (fun t102 w =>
  pk t99 t102 (.bool false) (fun t103 w =>
  s25_p47 K t0 t5 t6 t8 t103 w) w) w) w) w
def s25_p48_den (K : Value → World → Prop) : (Nat → Value) → World → Prop := denL Tryz.prog [(cd (Tryz.f25.body.getD .skip) [1, 1, 1, 1, 1, 1, 0, 0, 1, 1, 1, 1, 1, 1, 1, 1, 1, 1, 0])] (s25_p47_den K) (fun i => (bif Nat.beq i 0 then (s25_p1_den K) else (fun _ _ => False))) (s25_R K)
theorem s25_p48_ok (K : Value → World → Prop) (s : Nat → Value) (w : World) (h : s25_p48 K (s 0) (s 5) (s 6) (s 8) w) : Tr (s25_p48_den K s w) :=
  tr_simple (P := Tryz.prog) (codes := [(cd (Tryz.f25.body.getD .skip) [1, 1, 1, 1, 1, 1, 0, 0, 1, 1, 1, 1, 1, 1, 1, 1, 1, 1, 0])]) (N := (fun s w => s25_p47 K (s 0) (s 5) (s 6) (s 8) (s 97) w)) (N' := (s25_p47_den K)) (X := (fun i => (bif Nat.beq i 0 then (fun s w => s25_p1 K w) else (fun _ _ => False)))) (X' := (fun i => (bif Nat.beq i 0 then (s25_p1_den K) else (fun _ _ => False)))) (R := s25_R K) (s := s) (w := w) (p := s25_p48 K (s 0) (s 5) (s 6) (s 8) w) (q := s25_p48_den K s w) (fun s w h => s25_p47_ok K s w @h) (fun i => (tr_bif (fun s w h => s25_p1_ok K s w @h) tr_id)) (by kernel_rfl) (by kernel_rfl) @h
def s25_p49 (K : Value → World → Prop) (t0 t5 t6 t8 t82 : Value) (w : World) : Prop :=
  ifb t82
  (s25_p8 K t0 t6 w)
  (s25_p48 K t0 t5 t6 t8 w)
def s25_p49_den (K : Value → World → Prop) : (Nat → Value) → World → Prop := fun s w => ifb (ev s (.tmp 82)) ((s25_p8_den K) s w) ((s25_p48_den K) s w)
theorem s25_p49_ok (K : Value → World → Prop) (s : Nat → Value) (w : World) (h : s25_p49 K (s 0) (s 5) (s 6) (s 8) (s 82) w) : Tr (s25_p49_den K s w) :=
  tr_cond (v := ev s (.tmp 82)) (a := s25_p8 K (s 0) (s 6) w) (a' := s25_p8_den K s w) (b := s25_p48 K (s 0) (s 5) (s 6) (s 8) w) (b' := s25_p48_den K s w) (p := s25_p49 K (s 0) (s 5) (s 6) (s 8) (s 82) w) (q := s25_p49_den K s w) (s25_p8_ok K s w) (s25_p48_ok K s w) (by kernel_rfl) (by kernel_rfl) @h
def s25_p50 (K : Value → World → Prop) (t0 t5 t6 t8 : Value) (w : World) : Prop :=
  boI .eql t5 (.int .u8 5) (fun t84 w =>
  gd t84 true (fun K w => K t6 w) (fun t86 w =>
  gd t84 true (cl Tryz.prog 85 #[t86, (.int .i64 1)]) (fun t87 w =>
  pk t84 t87 (.bool false) (fun t88 w =>
  s25_p49 K t0 t5 t6 t8 t88 w) w) w) w) w
def s25_p50_den (K : Value → World → Prop) : (Nat → Value) → World → Prop := denL Tryz.prog [(cd (Tryz.f25.body.getD .skip) [1, 1, 1, 1, 1, 1, 0, 0, 1, 1, 1, 1, 1, 1, 1, 1, 0])] (s25_p49_den K) (fun i => (bif Nat.beq i 0 then (s25_p1_den K) else (fun _ _ => False))) (s25_R K)
theorem s25_p50_ok (K : Value → World → Prop) (s : Nat → Value) (w : World) (h : s25_p50 K (s 0) (s 5) (s 6) (s 8) w) : Tr (s25_p50_den K s w) :=
  tr_simple (P := Tryz.prog) (codes := [(cd (Tryz.f25.body.getD .skip) [1, 1, 1, 1, 1, 1, 0, 0, 1, 1, 1, 1, 1, 1, 1, 1, 0])]) (N := (fun s w => s25_p49 K (s 0) (s 5) (s 6) (s 8) (s 82) w)) (N' := (s25_p49_den K)) (X := (fun i => (bif Nat.beq i 0 then (fun s w => s25_p1 K w) else (fun _ _ => False)))) (X' := (fun i => (bif Nat.beq i 0 then (s25_p1_den K) else (fun _ _ => False)))) (R := s25_R K) (s := s) (w := w) (p := s25_p50 K (s 0) (s 5) (s 6) (s 8) w) (q := s25_p50_den K s w) (fun s w h => s25_p49_ok K s w @h) (fun i => (tr_bif (fun s w h => s25_p1_ok K s w @h) tr_id)) (by kernel_rfl) (by kernel_rfl) @h
def s25_p51 (K : Value → World → Prop) (t0 t5 t6 t8 t69 : Value) (w : World) : Prop :=
  ifb t69
  (s25_p6 K t0 t5 t6 w)
  (s25_p50 K t0 t5 t6 t8 w)
def s25_p51_den (K : Value → World → Prop) : (Nat → Value) → World → Prop := fun s w => ifb (ev s (.tmp 69)) ((s25_p6_den K) s w) ((s25_p50_den K) s w)
theorem s25_p51_ok (K : Value → World → Prop) (s : Nat → Value) (w : World) (h : s25_p51 K (s 0) (s 5) (s 6) (s 8) (s 69) w) : Tr (s25_p51_den K s w) :=
  tr_cond (v := ev s (.tmp 69)) (a := s25_p6 K (s 0) (s 5) (s 6) w) (a' := s25_p6_den K s w) (b := s25_p50 K (s 0) (s 5) (s 6) (s 8) w) (b' := s25_p50_den K s w) (p := s25_p51 K (s 0) (s 5) (s 6) (s 8) (s 69) w) (q := s25_p51_den K s w) (s25_p6_ok K s w) (s25_p50_ok K s w) (by kernel_rfl) (by kernel_rfl) @h
def s25_p52 (K : Value → World → Prop) (t0 t5 t6 t8 : Value) (w : World) : Prop :=
  boI .eql t5 (.int .u8 4) (fun t71 w =>
  gd t71 true (fun K w => K t8 w) (fun t73 w =>
  gd t71 true (boI .eql t73 (.int .i64 1)) (fun t74 w =>
  pk t71 t74 (.bool false) (fun t75 w =>
  s25_p51 K t0 t5 t6 t8 t75 w) w) w) w) w
def s25_p52_den (K : Value → World → Prop) : (Nat → Value) → World → Prop := denL Tryz.prog [(cd (Tryz.f25.body.getD .skip) [1, 1, 1, 1, 1, 1, 0, 0, 1, 1, 1, 1, 1, 1, 0])] (s25_p51_den K) (fun i => (bif Nat.beq i 0 then (s25_p1_den K) else (fun _ _ => False))) (s25_R K)
theorem s25_p52_ok (K : Value → World → Prop) (s : Nat → Value) (w : World) (h : s25_p52 K (s 0) (s 5) (s 6) (s 8) w) : Tr (s25_p52_den K s w) :=
  tr_simple (P := Tryz.prog) (codes := [(cd (Tryz.f25.body.getD .skip) [1, 1, 1, 1, 1, 1, 0, 0, 1, 1, 1, 1, 1, 1, 0])]) (N := (fun s w => s25_p51 K (s 0) (s 5) (s 6) (s 8) (s 69) w)) (N' := (s25_p51_den K)) (X := (fun i => (bif Nat.beq i 0 then (fun s w => s25_p1 K w) else (fun _ _ => False)))) (X' := (fun i => (bif Nat.beq i 0 then (s25_p1_den K) else (fun _ _ => False)))) (R := s25_R K) (s := s) (w := w) (p := s25_p52 K (s 0) (s 5) (s 6) (s 8) w) (q := s25_p52_den K s w) (fun s w h => s25_p51_ok K s w @h) (fun i => (tr_bif (fun s w h => s25_p1_ok K s w @h) tr_id)) (by kernel_rfl) (by kernel_rfl) @h
def s25_p53 (K : Value → World → Prop) (t0 t5 t6 t8 t57 : Value) (w : World) : Prop :=
  ifb t57
  (s25_p5 K t0 t6 w)
  (s25_p52 K t0 t5 t6 t8 w)
def s25_p53_den (K : Value → World → Prop) : (Nat → Value) → World → Prop := fun s w => ifb (ev s (.tmp 57)) ((s25_p5_den K) s w) ((s25_p52_den K) s w)
theorem s25_p53_ok (K : Value → World → Prop) (s : Nat → Value) (w : World) (h : s25_p53 K (s 0) (s 5) (s 6) (s 8) (s 57) w) : Tr (s25_p53_den K s w) :=
  tr_cond (v := ev s (.tmp 57)) (a := s25_p5 K (s 0) (s 6) w) (a' := s25_p5_den K s w) (b := s25_p52 K (s 0) (s 5) (s 6) (s 8) w) (b' := s25_p52_den K s w) (p := s25_p53 K (s 0) (s 5) (s 6) (s 8) (s 57) w) (q := s25_p53_den K s w) (s25_p5_ok K s w) (s25_p52_ok K s w) (by kernel_rfl) (by kernel_rfl) @h
def s25_p54 (K : Value → World → Prop) (t0 t5 t6 t8 : Value) (w : World) : Prop :=
  boI .eql t5 (.int .u8 3) (fun t59 w =>
  gd t59 true (fun K w => K t8 w) (fun t61 w =>
  gd t59 true (boI .eql t61 (.int .i64 1)) (fun t62 w =>
  pk t59 t62 (.bool false) (fun t63 w =>
  s25_p53 K t0 t5 t6 t8 t63 w) w) w) w) w
def s25_p54_den (K : Value → World → Prop) : (Nat → Value) → World → Prop := denL Tryz.prog [(cd (Tryz.f25.body.getD .skip) [1, 1, 1, 1, 1, 1, 0, 0, 1, 1, 1, 1, 0])] (s25_p53_den K) (fun i => (bif Nat.beq i 0 then (s25_p1_den K) else (fun _ _ => False))) (s25_R K)
theorem s25_p54_ok (K : Value → World → Prop) (s : Nat → Value) (w : World) (h : s25_p54 K (s 0) (s 5) (s 6) (s 8) w) : Tr (s25_p54_den K s w) :=
  tr_simple (P := Tryz.prog) (codes := [(cd (Tryz.f25.body.getD .skip) [1, 1, 1, 1, 1, 1, 0, 0, 1, 1, 1, 1, 0])]) (N := (fun s w => s25_p53 K (s 0) (s 5) (s 6) (s 8) (s 57) w)) (N' := (s25_p53_den K)) (X := (fun i => (bif Nat.beq i 0 then (fun s w => s25_p1 K w) else (fun _ _ => False)))) (X' := (fun i => (bif Nat.beq i 0 then (s25_p1_den K) else (fun _ _ => False)))) (R := s25_R K) (s := s) (w := w) (p := s25_p54 K (s 0) (s 5) (s 6) (s 8) w) (q := s25_p54_den K s w) (fun s w h => s25_p53_ok K s w @h) (fun i => (tr_bif (fun s w h => s25_p1_ok K s w @h) tr_id)) (by kernel_rfl) (by kernel_rfl) @h
def s25_p55 (K : Value → World → Prop) (t0 t5 t6 t8 t45 : Value) (w : World) : Prop :=
  ifb t45
  (s25_p4 K t0 t6 w)
  (s25_p54 K t0 t5 t6 t8 w)
def s25_p55_den (K : Value → World → Prop) : (Nat → Value) → World → Prop := fun s w => ifb (ev s (.tmp 45)) ((s25_p4_den K) s w) ((s25_p54_den K) s w)
theorem s25_p55_ok (K : Value → World → Prop) (s : Nat → Value) (w : World) (h : s25_p55 K (s 0) (s 5) (s 6) (s 8) (s 45) w) : Tr (s25_p55_den K s w) :=
  tr_cond (v := ev s (.tmp 45)) (a := s25_p4 K (s 0) (s 6) w) (a' := s25_p4_den K s w) (b := s25_p54 K (s 0) (s 5) (s 6) (s 8) w) (b' := s25_p54_den K s w) (p := s25_p55 K (s 0) (s 5) (s 6) (s 8) (s 45) w) (q := s25_p55_den K s w) (s25_p4_ok K s w) (s25_p54_ok K s w) (by kernel_rfl) (by kernel_rfl) @h
def s25_p56 (K : Value → World → Prop) (t0 t5 t6 t8 : Value) (w : World) : Prop :=
  boI .eql t5 (.int .u8 2) (fun t47 w =>
  gd t47 true (fun K w => K t8 w) (fun t49 w =>
  gd t47 true (boI .eql t49 (.int .i64 1)) (fun t50 w =>
  pk t47 t50 (.bool false) (fun t51 w =>
  s25_p55 K t0 t5 t6 t8 t51 w) w) w) w) w
def s25_p56_den (K : Value → World → Prop) : (Nat → Value) → World → Prop := denL Tryz.prog [(cd (Tryz.f25.body.getD .skip) [1, 1, 1, 1, 1, 1, 0, 0, 1, 1, 0])] (s25_p55_den K) (fun i => (bif Nat.beq i 0 then (s25_p1_den K) else (fun _ _ => False))) (s25_R K)
theorem s25_p56_ok (K : Value → World → Prop) (s : Nat → Value) (w : World) (h : s25_p56 K (s 0) (s 5) (s 6) (s 8) w) : Tr (s25_p56_den K s w) :=
  tr_simple (P := Tryz.prog) (codes := [(cd (Tryz.f25.body.getD .skip) [1, 1, 1, 1, 1, 1, 0, 0, 1, 1, 0])]) (N := (fun s w => s25_p55 K (s 0) (s 5) (s 6) (s 8) (s 45) w)) (N' := (s25_p55_den K)) (X := (fun i => (bif Nat.beq i 0 then (fun s w => s25_p1 K w) else (fun _ _ => False)))) (X' := (fun i => (bif Nat.beq i 0 then (s25_p1_den K) else (fun _ _ => False)))) (R := s25_R K) (s := s) (w := w) (p := s25_p56 K (s 0) (s 5) (s 6) (s 8) w) (q := s25_p56_den K s w) (fun s w h => s25_p55_ok K s w @h) (fun i => (tr_bif (fun s w h => s25_p1_ok K s w @h) tr_id)) (by kernel_rfl) (by kernel_rfl) @h
def s25_p57 (K : Value → World → Prop) (t0 t5 t6 t8 t27 : Value) (w : World) : Prop :=
  ifb t27
  (s25_p3 K t0 t6 w)
  (s25_p56 K t0 t5 t6 t8 w)
def s25_p57_den (K : Value → World → Prop) : (Nat → Value) → World → Prop := fun s w => ifb (ev s (.tmp 27)) ((s25_p3_den K) s w) ((s25_p56_den K) s w)
theorem s25_p57_ok (K : Value → World → Prop) (s : Nat → Value) (w : World) (h : s25_p57 K (s 0) (s 5) (s 6) (s 8) (s 27) w) : Tr (s25_p57_den K s w) :=
  tr_cond (v := ev s (.tmp 27)) (a := s25_p3 K (s 0) (s 6) w) (a' := s25_p3_den K s w) (b := s25_p56 K (s 0) (s 5) (s 6) (s 8) w) (b' := s25_p56_den K s w) (p := s25_p57 K (s 0) (s 5) (s 6) (s 8) (s 27) w) (q := s25_p57_den K s w) (s25_p3_ok K s w) (s25_p56_ok K s w) (by kernel_rfl) (by kernel_rfl) @h
def s25_p58 (K : Value → World → Prop) (t0 t5 t6 t8 : Value) (w : World) : Prop :=
  boI .eql t5 (.int .u8 1) (fun t29 w =>
  gd t29 true (fun K w => K t6 w) (fun t31 w =>
  gd t29 true (cl Tryz.prog 85 #[t31, (.int .i64 2)]) (fun t32 w =>
  pk t29 t32 (.bool false) (fun t33 w =>
  s25_p57 K t0 t5 t6 t8 t33 w) w) w) w) w
def s25_p58_den (K : Value → World → Prop) : (Nat → Value) → World → Prop := denL Tryz.prog [(cd (Tryz.f25.body.getD .skip) [1, 1, 1, 1, 1, 1, 0, 0, 0])] (s25_p57_den K) (fun i => (bif Nat.beq i 0 then (s25_p1_den K) else (fun _ _ => False))) (s25_R K)
theorem s25_p58_ok (K : Value → World → Prop) (s : Nat → Value) (w : World) (h : s25_p58 K (s 0) (s 5) (s 6) (s 8) w) : Tr (s25_p58_den K s w) :=
  tr_simple (P := Tryz.prog) (codes := [(cd (Tryz.f25.body.getD .skip) [1, 1, 1, 1, 1, 1, 0, 0, 0])]) (N := (fun s w => s25_p57 K (s 0) (s 5) (s 6) (s 8) (s 27) w)) (N' := (s25_p57_den K)) (X := (fun i => (bif Nat.beq i 0 then (fun s w => s25_p1 K w) else (fun _ _ => False)))) (X' := (fun i => (bif Nat.beq i 0 then (s25_p1_den K) else (fun _ _ => False)))) (R := s25_R K) (s := s) (w := w) (p := s25_p58 K (s 0) (s 5) (s 6) (s 8) w) (q := s25_p58_den K s w) (fun s w h => s25_p57_ok K s w @h) (fun i => (tr_bif (fun s w h => s25_p1_ok K s w @h) tr_id)) (by kernel_rfl) (by kernel_rfl) @h
def s25_p59 (K : Value → World → Prop) (t0 t1 : Value) (w : World) : Prop :=
  lnS t1 (fun t10 w =>
  boI .eql t10 (.int .i64 0) (fun t11 w =>
  ifb t11
  (cl Tryz.prog 83 #[(.int .i64 1)] (fun t12 w =>
  K t12 w) w)
  (ixs 1 t1 (.int .i64 0) (fun t14 w =>
  ld1 t14 (fun t15 w =>
  sls 1 t1 (some (.int .i64 1)) none (fun t18 w =>
  cl Tryz.prog 84 #[t18] (fun t19 w =>
  exq t19 0 (fun t20 w =>
  exq t19 1 (fun t21 w =>
  un .not t21 (fun t23 w =>
  ifb t23
  (cl Tryz.prog 83 #[(.int .i64 1)] (fun t24 w =>
  K t24 w) w)
  (lnS t20 (fun t26 w =>
  s25_p58 K t0 t15 t20 t26 w) w)) w) w) w) w) w) w) w)) w) w
def s25_p59_den (K : Value → World → Prop) : (Nat → Value) → World → Prop := denL Tryz.prog [(cd (Tryz.f25.body.getD .skip) [0]), (cd (Tryz.f25.body.getD .skip) [1, 0, 0]), (cd (Tryz.f25.body.getD .skip) [1, 0, 1]), (cd (Tryz.f25.body.getD .skip) [1, 1, 0]), (cd (Tryz.f25.body.getD .skip) [1, 1, 1, 0]), (cd (Tryz.f25.body.getD .skip) [1, 1, 1, 1, 0, 0]), (cd (Tryz.f25.body.getD .skip) [1, 1, 1, 1, 0, 1]), (cd (Tryz.f25.body.getD .skip) [1, 1, 1, 1, 1, 0])] (s25_p58_den K) (fun i => (fun _ _ => False)) (s25_R K)
theorem s25_p59_ok (K : Value → World → Prop) (s : Nat → Value) (w : World) (h : s25_p59 K (s 0) (s 1) w) : Tr (s25_p59_den K s w) :=
  tr_simple (P := Tryz.prog) (codes := [(cd (Tryz.f25.body.getD .skip) [0]), (cd (Tryz.f25.body.getD .skip) [1, 0, 0]), (cd (Tryz.f25.body.getD .skip) [1, 0, 1]), (cd (Tryz.f25.body.getD .skip) [1, 1, 0]), (cd (Tryz.f25.body.getD .skip) [1, 1, 1, 0]), (cd (Tryz.f25.body.getD .skip) [1, 1, 1, 1, 0, 0]), (cd (Tryz.f25.body.getD .skip) [1, 1, 1, 1, 0, 1]), (cd (Tryz.f25.body.getD .skip) [1, 1, 1, 1, 1, 0])]) (N := (fun s w => s25_p58 K (s 0) (s 5) (s 6) (s 8) w)) (N' := (s25_p58_den K)) (X := (fun i => (fun _ _ => False))) (X' := (fun i => (fun _ _ => False))) (R := s25_R K) (s := s) (w := w) (p := s25_p59 K (s 0) (s 1) w) (q := s25_p59_den K s w) (fun s w h => s25_p58_ok K s w @h) (fun i => tr_id) (by kernel_rfl) (by kernel_rfl) @h
/-- the call, from the text -/
theorem c25 (t0 t1 : Value) {K : Value → World → Prop} {w : World} (h : s25_p59 K t0 t1 w) : cl Tryz.prog 25 #[t0, t1] K w :=
  calls_of_tr (c := (Tryz.f25.body.getD .skip)) (fn := Tryz.f25) (q := s25_p59_den K (st0 #[t0, t1]) w) Tryz.func25 (by kernel_rfl) (by kernel_rfl) (Nat.le_of_ble_eq_true (by kernel_rfl)) (by kernel_rfl) (by kernel_rfl) (s25_p59_ok K (st0 #[t0, t1]) w @h)

/-! ### function 83 : e2e.enginem.no -/
def s83_R (K : Value → World → Prop) (s : Nat → Value) (w : World) : Prop := retv Tryz.prog s Tryz.f83.results.toList (fun vs => K (pack vs) w) w
def s83_p1 (K : Value → World → Prop) (t0 : Value) (w : World) : Prop :=
  cvi .u8 t0 (fun t4 w =>
  bsq 5 [(.int .u8 0)] 1 [(some (0, 1), t4)] (fun t5 w =>
  K t5 w) w) w
def s83_p1_den (K : Value → World → Prop) : (Nat → Value) → World → Prop := denL Tryz.prog [(cd (Tryz.f83.body.getD .skip) [0]), (cd (Tryz.f83.body.getD .skip) [1, 0]), (cd (Tryz.f83.body.getD .skip) [1, 1])] (fun _ _ => False) (fun i => (fun _ _ => False)) (s83_R K)
theorem s83_p1_ok (K : Value → World → Prop) (s : Nat → Value) (w : World) (h : s83_p1 K (s 0) w) : Tr (s83_p1_den K s w) :=
  tr_simple (P := Tryz.prog) (codes := [(cd (Tryz.f83.body.getD .skip) [0]), (cd (Tryz.f83.body.getD .skip) [1, 0]), (cd (Tryz.f83.body.getD .skip) [1, 1])]) (N := (fun _ _ => False)) (N' := (fun _ _ => False)) (X := (fun i => (fun _ _ => False))) (X' := (fun i => (fun _ _ => False))) (R := s83_R K) (s := s) (w := w) (p := s83_p1 K (s 0) w) (q := s83_p1_den K s w) tr_id (fun i => tr_id) (by kernel_rfl) (by kernel_rfl) @h
/-- the call, from the text -/
theorem c83 (t0 : Value) {K : Value → World → Prop} {w : World} (h : s83_p1 K t0 w) : cl Tryz.prog 83 #[t0] K w :=
  calls_of_tr (c := (Tryz.f83.body.getD .skip)) (fn := Tryz.f83) (q := s83_p1_den K (st0 #[t0]) w) Tryz.func83 (by kernel_rfl) (by kernel_rfl) (Nat.le_of_ble_eq_true (by kernel_rfl)) (by kernel_rfl) (by kernel_rfl) (s83_p1_ok K (st0 #[t0]) w @h)

/-! ### function 84 : e2e.enginem.numbers -/
def s84_R (K : Value → World → Prop) (s : Nat → Value) (w : World) : Prop := retv Tryz.prog s Tryz.f84.results.toList (fun vs => K (pack vs) w) w
def s84_p1 (K : Value → World → Prop) (t4 : Value) (w : World) : Prop :=
  K (.tuple #[t4, (.bool true)]) w
def s84_p1_den (K : Value → World → Prop) : (Nat → Value) → World → Prop := denL Tryz.prog [(cd (Tryz.f84.body.getD .skip) [1, 1, 1, 0]), (cd (Tryz.f84.body.getD .skip) [1, 1, 1, 1])] (fun _ _ => False) (fun i => (fun _ _ => False)) (s84_R K)
theorem s84_p1_ok (K : Value → World → Prop) (s : Nat → Value) (w : World) (h : s84_p1 K (s 4) w) : Tr (s84_p1_den K s w) :=
  tr_simple (P := Tryz.prog) (codes := [(cd (Tryz.f84.body.getD .skip) [1, 1, 1, 0]), (cd (Tryz.f84.body.getD .skip) [1, 1, 1, 1])]) (N := (fun _ _ => False)) (N' := (fun _ _ => False)) (X := (fun i => (fun _ _ => False))) (X' := (fun i => (fun _ _ => False))) (R := s84_R K) (s := s) (w := w) (p := s84_p1 K (s 4) w) (q := s84_p1_den K s w) tr_id (fun i => tr_id) (by kernel_rfl) (by kernel_rfl) @h
def s84_p2 (K : Value → World → Prop) (B1 : List Value → World → Prop) (t0 t4 : Value) (w : World) : Prop :=
  lnS t0 (fun t9 w =>
  boI .gtr t9 (.int .i64 0) (fun t10 w =>
  ifb t10
  (cl Tryz.prog 138 #[t0] (fun t13 w =>
  exq t13 0 (fun t14 w =>
  exq t13 1 (fun t15 w =>
  boI .leq t15 (.int .i64 0) (fun t17 w =>
  ifb t17
  (K (.tuple #[(.slice none 0 0), (.bool false)]) w)
  (bsq 3 [(.int .i64 0)] 1 [(some (0, 1), t14)] (fun t20 w =>
  apq 3 [(.int .i64 0)] 8 t4 t20 (fun t21 w =>
  sls 1 t0 (some t15) none (fun t24 w =>
  B1 [t24, t21] w) w) w) w)) w) w) w) w)
  (s84_p1 K t4 w)) w) w
def s84_p2_den (K : Value → World → Prop) (M1 : (Nat → Value) → World → Prop) : (Nat → Value) → World → Prop := denL Tryz.prog [(cd (Tryz.f84.body.getD .skip) [1, 1, 0, 0, 0, 0, 0]), (cd (Tryz.f84.body.getD .skip) [1, 1, 0, 0, 0, 0, 1]), (cd (Tryz.f84.body.getD .skip) [1, 1, 0, 0, 0, 1])] M1 (fun i => (bif Nat.beq i 0 then (s84_p1_den K) else (fun _ _ => False))) (s84_R K)
theorem s84_p2_ok (K : Value → World → Prop) (B1 : List Value → World → Prop) (s : Nat → Value) (w : World) (h : s84_p2 K B1 (s 0) (s 4) w) : Tr (s84_p2_den K (fun s w => B1 [s 0, s 4] w) s w) :=
  tr_simple (P := Tryz.prog) (codes := [(cd (Tryz.f84.body.getD .skip) [1, 1, 0, 0, 0, 0, 0]), (cd (Tryz.f84.body.getD .skip) [1, 1, 0, 0, 0, 0, 1]), (cd (Tryz.f84.body.getD .skip) [1, 1, 0, 0, 0, 1])]) (N := (fun s w => B1 [s 0, s 4] w)) (N' := (fun s w => B1 [s 0, s 4] w)) (X := (fun i => (bif Nat.beq i 0 then (fun s w => s84_p1 K (s 4) w) else (fun _ _ => False)))) (X' := (fun i => (bif Nat.beq i 0 then (s84_p1_den K) else (fun _ _ => False)))) (R := s84_R K) (s := s) (w := w) (p := s84_p2 K B1 (s 0) (s 4) w) (q := s84_p2_den K (fun s w => B1 [s 0, s 4] w) s w) tr_id (fun i => (tr_bif (fun s w h => s84_p1_ok K s w @h) tr_id)) (by kernel_rfl) (by kernel_rfl) @h
def s84_p3_F (K : Value → World → Prop) (B1 : List Value → World → Prop) (l : List Value) (w : World) : Prop :=
  match l with
  | [t0, t4] => s84_p2 K B1 t0 t4 w
  | _ => False
theorem s84_p3_Fe {K : Value → World → Prop} {B1 : List Value → World → Prop} {t0 t4 : Value} {w : World} : s84_p3_F K B1 [t0, t4] w = s84_p2 K B1 t0 t4 w := by kernel_rfl
def s84_p3 (K : Value → World → Prop) (t0 t4 : Value) (w : World) : Prop :=
  LoopL (s84_p3_F K) [t0, t4] w
def s84_p3_den (K : Value → World → Prop) : (Nat → Value) → World → Prop := fun s w => LoopP (fun M1 s w => s84_p2_den K M1 s w) s w
theorem s84_p3_ok (K : Value → World → Prop) (s : Nat → Value) (w : World) (h : s84_p3 K (s 0) (s 4) w) : Tr (s84_p3_den K s w) :=
  tr_loop (G := fun N' s w => s84_p2_den K N' s w) (F := s84_p3_F K) (sel := fun s => [s 0, s 4]) (s := s) (w := w) (p := s84_p3 K (s 0) (s 4) w) (q := s84_p3_den K s w) (fun B s w h => s84_p2_ok K B s w @h) (by kernel_rfl) (by kernel_rfl) @h
def s84_p4 (K : Value → World → Prop) (t0 : Value) (w : World) : Prop :=
  bsq 3 [(.int .i64 0)] 0 [] (fun t7 w =>
  s84_p3 K t0 t7 w) w
def s84_p4_den (K : Value → World → Prop) : (Nat → Value) → World → Prop := denL Tryz.prog [(cd (Tryz.f84.body.getD .skip) [0]), (cd (Tryz.f84.body.getD .skip) [1, 0])] (s84_p3_den K) (fun i => (fun _ _ => False)) (s84_R K)
theorem s84_p4_ok (K : Value → World → Prop) (s : Nat → Value) (w : World) (h : s84_p4 K (s 0) w) : Tr (s84_p4_den K s w) :=
  tr_simple (P := Tryz.prog) (codes := [(cd (Tryz.f84.body.getD .skip) [0]), (cd (Tryz.f84.body.getD .skip) [1, 0])]) (N := (fun s w => s84_p3 K (s 0) (s 4) w)) (N' := (s84_p3_den K)) (X := (fun i => (fun _ _ => False))) (X' := (fun i => (fun _ _ => False))) (R := s84_R K) (s := s) (w := w) (p := s84_p4 K (s 0) w) (q := s84_p4_den K s w) (fun s w h => s84_p3_ok K s w @h) (fun i => tr_id) (by kernel_rfl) (by kernel_rfl) @h
/-- the call, from the text -/
theorem c84 (t0 : Value) {K : Value → World → Prop} {w : World} (h : s84_p4 K t0 w) : cl Tryz.prog 84 #[t0] K w :=
  calls_of_tr (c := (Tryz.f84.body.getD .skip)) (fn := Tryz.f84) (q := s84_p4_den K (st0 #[t0]) w) Tryz.func84 (by kernel_rfl) (by kernel_rfl) (Nat.le_of_ble_eq_true (by kernel_rfl)) (by kernel_rfl) (by kernel_rfl) (s84_p4_ok K (st0 #[t0]) w @h)

/-! ### function 85 : e2e.enginem.listed -/
def s85_R (K : Value → World → Prop) (s : Nat → Value) (w : World) : Prop := retv Tryz.prog s Tryz.f85.results.toList (fun vs => K (pack vs) w) w
def s85_p1 (K : Value → World → Prop) (t0 t1 : Value) (w : World) : Prop :=
  lnS t0 (fun t6 w =>
  boI .gtr t6 t1 (fun t8 w =>
  gd t8 true (fun K w => K t0 w) (fun t10 w =>
  gd t8 true (fun K w => K t1 w) (fun t11 w =>
  gd t8 true (ixs 1 t10 t11) (fun t12 w =>
  gd t8 true (ld1 t12) (fun t13 w =>
  gd t8 true (boI .leq t13 (.int .i64 8)) (fun t14 w =>
  pk t8 t14 (.bool false) (fun t15 w =>
  gd t15 true (fun K w => K t0 w) (fun t17 w =>
  gd t15 true (lnS t17) (fun t18 w =>
  gd t15 true (fun K w => K t1 w) (fun t19 w =>
  gd t15 true (boI .add t19 (.int .i64 1)) (fun t20 w =>
  gd t15 true (fun K w => K t0 w) (fun t21 w =>
  gd t15 true (fun K w => K t1 w) (fun t22 w =>
  gd t15 true (ixs 1 t21 t22) (fun t23 w =>
  gd t15 true (ld1 t23) (fun t24 w =>
  gd t15 true (boI .mul (.int .i64 2) t24) (fun t25 w =>
  gd t15 true (boI .add t20 t25) (fun t26 w =>
  gd t15 true (boI .eql t18 t26) (fun t27 w =>
  pk t15 t27 (.bool false) (fun t28 w =>
  K t28 w) w) w) w) w) w) w) w) w) w) w) w) w) w) w) w) w) w) w) w) w
def s85_p1_den (K : Value → World → Prop) : (Nat → Value) → World → Prop := denL Tryz.prog [(cd (Tryz.f85.body.getD .skip) [0]), (cd (Tryz.f85.body.getD .skip) [1, 0]), (cd (Tryz.f85.body.getD .skip) [1, 1])] (fun _ _ => False) (fun i => (fun _ _ => False)) (s85_R K)
theorem s85_p1_ok (K : Value → World → Prop) (s : Nat → Value) (w : World) (h : s85_p1 K (s 0) (s 1) w) : Tr (s85_p1_den K s w) :=
  tr_simple (P := Tryz.prog) (codes := [(cd (Tryz.f85.body.getD .skip) [0]), (cd (Tryz.f85.body.getD .skip) [1, 0]), (cd (Tryz.f85.body.getD .skip) [1, 1])]) (N := (fun _ _ => False)) (N' := (fun _ _ => False)) (X := (fun i => (fun _ _ => False))) (X' := (fun i => (fun _ _ => False))) (R := s85_R K) (s := s) (w := w) (p := s85_p1 K (s 0) (s 1) w) (q := s85_p1_den K s w) tr_id (fun i => tr_id) (by kernel_rfl) (by kernel_rfl) @h
/-- the call, from the text -/
theorem c85 (t0 t1 : Value) {K : Value → World → Prop} {w : World} (h : s85_p1 K t0 t1 w) : cl Tryz.prog 85 #[t0, t1] K w :=
  calls_of_tr (c := (Tryz.f85.body.getD .skip)) (fn := Tryz.f85) (q := s85_p1_den K (st0 #[t0, t1]) w) Tryz.func85 (by kernel_rfl) (by kernel_rfl) (Nat.le_of_ble_eq_true (by kernel_rfl)) (by kernel_rfl) (by kernel_rfl) (s85_p1_ok K (st0 #[t0, t1]) w @h)

/-! ### function 86 : (*e2e.enginem.State).hold -/
def s86_R (K : Value → World → Prop) (s : Nat → Value) (w : World) : Prop := retv Tryz.prog s Tryz.f86.results.toList (fun vs => K (pack vs) w) w
def s86_p1 (K : Value → World → Prop) (t8 : Value) (w : World) : Prop :=
  K t8 w
def s86_p1_den (K : Value → World → Prop) : (Nat → Value) → World → Prop := denL Tryz.prog [(cd (Tryz.f86.body.getD .skip) [1, 1, 1, 1, 1, 1, 1, 1])] (fun _ _ => False) (fun i => (fun _ _ => False)) (s86_R K)
theorem s86_p1_ok (K : Value → World → Prop) (s : Nat → Value) (w : World) (h : s86_p1 K (s 8) w) : Tr (s86_p1_den K s w) :=
  tr_simple (P := Tryz.prog) (codes := [(cd (Tryz.f86.body.getD .skip) [1, 1, 1, 1, 1, 1, 1, 1])]) (N := (fun _ _ => False)) (N' := (fun _ _ => False)) (X := (fun i => (fun _ _ => False))) (X' := (fun i => (fun _ _ => False))) (R := s86_R K) (s := s) (w := w) (p := s86_p1 K (s 8) w) (q := s86_p1_den K s w) tr_id (fun i => tr_id) (by kernel_rfl) (by kernel_rfl) @h
def s86_p2_d (K : Value → World → Prop) (t0 : Value) (w0 w : World) : Prop :=
  nck t0 (fun t68 _ =>
  fd 15 t68 (fun t69 _ =>
  ld1 t69 (fun t70 _ =>
  lnS t70 (fun t71 _ =>
  nck t0 (fun t73 _ =>
  fd 14 t73 (fun t74 _ =>
  ld1 t74 (fun t75 _ =>
  nck t0 (fun t77 _ =>
  fd 0 t77 (fun t78 _ =>
  fd 6 t78 (fun t79 _ =>
  ld1 t79 (fun t80 _ =>
  boI .add t75 t80 (fun t81 _ =>
  bsq 3 [(.int .i64 0)] 2 [(some (0, 1), t71), (some (1, 1), t81)] (fun t82 w =>
  cl Tryz.prog 99 #[(.int .u8 1), t82] (fun t83 w =>
  s86_p1 K t83 w) w) w) w0) w0) w0) w0) w0) w0) w0) w0) w0) w0) w0) w0
def s86_p2 (K : Value → World → Prop) (t0 : Value) (w : World) : Prop := s86_p2_d K t0 (drw w) (drw w)
def s86_p2_den (K : Value → World → Prop) : (Nat → Value) → World → Prop := denL Tryz.prog [(cd (Tryz.f86.body.getD .skip) [1, 1, 1, 1, 1, 1, 1, 0])] (s86_p1_den K) (fun i => (fun _ _ => False)) (s86_R K)
theorem s86_p2_ok (K : Value → World → Prop) (s : Nat → Value) (w : World) (h : s86_p2 K (s 0) w) : Tr (s86_p2_den K s w) :=
  tr_draw (P := Tryz.prog) (ops := (ro (cd (Tryz.f86.body.getD .skip) [1, 1, 1, 1, 1, 1, 1, 0]))) (ms := [0, 1, 3, 7, 15, 0, 32, 96, 224, 0, 512, 1536, 3584, 7680, 16352, 32767, 65535, 131071]) (cs := [0, 1, 2, 3, 4, 5, 6, 7, 8, 9, 10, 11, 12, 13, 14]) (N := (fun s w => s86_p1 K (s 8) w)) (N' := (s86_p1_den K)) (s := s) (w := w) (p := s86_p2 K (s 0) w) (q := s86_p2_den K s w) (by kernel_rfl) (by kernel_rfl) (fun s w h => s86_p1_ok K s w @h) (by kernel_rfl) (by kernel_rfl) @h
def s86_p3 (K : Value → World → Prop) (t0 t11 : Value) (w : World) : Prop :=
  cl Tryz.prog 147 #[t11] (fun t57 w =>
  boI .neq t57 (.int .i64 0) (fun t59 w =>
  ifb t59
  (cl Tryz.prog 83 #[t57] (fun t61 w =>
  K t61 w) w)
  (nck t11 (fun t64 w =>
  ldn 17 t64 (fun t65 w =>
  nck t0 (fun t66 w =>
  stn 17 t66 t65 (fun w =>
  s86_p2 K t0 w) w) w) w) w)) w) w
def s86_p3_den (K : Value → World → Prop) : (Nat → Value) → World → Prop := denL Tryz.prog [(cd (Tryz.f86.body.getD .skip) [1, 1, 1, 1, 1, 0, 0]), (cd (Tryz.f86.body.getD .skip) [1, 1, 1, 1, 1, 0, 1, 0]), (cd (Tryz.f86.body.getD .skip) [1, 1, 1, 1, 1, 0, 1, 1]), (cd (Tryz.f86.body.getD .skip) [1, 1, 1, 1, 1, 1, 0])] (s86_p2_den K) (fun i => (fun _ _ => False)) (s86_R K)
theorem s86_p3_ok (K : Value → World → Prop) (s : Nat → Value) (w : World) (h : s86_p3 K (s 0) (s 11) w) : Tr (s86_p3_den K s w) :=
  tr_simple (P := Tryz.prog) (codes := [(cd (Tryz.f86.body.getD .skip) [1, 1, 1, 1, 1, 0, 0]), (cd (Tryz.f86.body.getD .skip) [1, 1, 1, 1, 1, 0, 1, 0]), (cd (Tryz.f86.body.getD .skip) [1, 1, 1, 1, 1, 0, 1, 1]), (cd (Tryz.f86.body.getD .skip) [1, 1, 1, 1, 1, 1, 0])]) (N := (fun s w => s86_p2 K (s 0) w)) (N' := (s86_p2_den K)) (X := (fun i => (fun _ _ => False))) (X' := (fun i => (fun _ _ => False))) (R := s86_R K) (s := s) (w := w) (p := s86_p3 K (s 0) (s 11) w) (q := s86_p3_den K s w) (fun s w h => s86_p2_ok K s w @h) (fun i => tr_id) (by kernel_rfl) (by kernel_rfl) @h
def s86_p4_d (K : Value → World → Prop) (t0 t1 t2 t3 : Value) (w0 w : World) : Prop :=
  nck t0 (fun t44 _ =>
  fd 14 t44 (fun t45 _ =>
  ld1 t45 (fun t46 _ =>
  nck t0 (fun t48 _ =>
  fd 0 t48 (fun t49 _ =>
  fd 6 t49 (fun t50 _ =>
  ld1 t50 (fun t51 _ =>
  boI .add t46 t51 (fun t52 _ =>
  bdq [(.int .i64 0), (.int .i64 0), (.int .i64 0), (.int .i64 0), (.int .i64 0), (.int .i64 0), (.slice none 0 0)] [(some (1, 1), (.int .i64 1)), (some (2, 1), t1), (some (3, 1), t2), (some (5, 1), t52), (some (6, 1), t3)] (fun t54 _ =>
  cl Tryz.prog 146 #[t0, t54] (fun t55 w =>
  s86_p3 K t0 t55 w) w) w0) w0) w0) w0) w0) w0) w0) w0) w0
def s86_p4 (K : Value → World → Prop) (t0 t1 t2 t3 : Value) (w : World) : Prop := s86_p4_d K t0 t1 t2 t3 (drw w) (drw w)
def s86_p4_den (K : Value → World → Prop) : (Nat → Value) → World → Prop := denL Tryz.prog [(cd (Tryz.f86.body.getD .skip) [1, 1, 1, 1, 0])] (s86_p3_den K) (fun i => (fun _ _ => False)) (s86_R K)
theorem s86_p4_ok (K : Value → World → Prop) (s : Nat → Value) (w : World) (h : s86_p4 K (s 0) (s 1) (s 2) (s 3) w) : Tr (s86_p4_den K s w) :=
  tr_draw (P := Tryz.prog) (ops := (ro (cd (Tryz.f86.body.getD .skip) [1, 1, 1, 1, 0]))) (ms := [0, 0, 0, 0, 8, 24, 56, 0, 128, 384, 896, 1920, 4088, 0, 16382, 32767, 65535]) (cs := [0, 1, 2, 3, 4, 5, 6, 7, 8, 9, 10, 11, 12, 13, 14]) (N := (fun s w => s86_p3 K (s 0) (s 11) w)) (N' := (s86_p3_den K)) (s := s) (w := w) (p := s86_p4 K (s 0) (s 1) (s 2) (s 3) w) (q := s86_p4_den K s w) (by kernel_rfl) (by kernel_rfl) (fun s w h => s86_p3_ok K s w @h) (by kernel_rfl) (by kernel_rfl) @h
def s86_p5 (K : Value → World → Prop) (t0 t1 t2 t3 t38 : Value) (w : World) : Prop :=
  ifb t38
  (cl Tryz.prog 83 #[(.int .i64 9)] (fun t39 w =>
  K t39 w) w)
  (s86_p4 K t0 t1 t2 t3 w)
def s86_p5_den (K : Value → World → Prop) : (Nat → Value) → World → Prop := denL Tryz.prog [(cd (Tryz.f86.body.getD .skip) [1, 1, 1, 0, 1])] (s86_p4_den K) (fun i => (fun _ _ => False)) (s86_R K)
theorem s86_p5_ok (K : Value → World → Prop) (s : Nat → Value) (w : World) (h : s86_p5 K (s 0) (s 1) (s 2) (s 3) (s 38) w) : Tr (s86_p5_den K s w) :=
  tr_simple (P := Tryz.prog) (codes := [(cd (Tryz.f86.body.getD .skip) [1, 1, 1, 0, 1])]) (N := (fun s w => s86_p4 K (s 0) (s 1) (s 2) (s 3) w)) (N' := (s86_p4_den K)) (X := (fun i => (fun _ _ => False))) (X' := (fun i => (fun _ _ => False))) (R := s86_R K) (s := s) (w := w) (p := s86_p5 K (s 0) (s 1) (s 2) (s 3) (s 38) w) (q := s86_p5_den K s w) (fun s w h => s86_p4_ok K s w @h) (fun i => tr_id) (by kernel_rfl) (by kernel_rfl) @h
def s86_p6_d (K : Value → World → Prop) (t0 t1 t2 t3 : Value) (w0 w : World) : Prop :=
  nck t0 (fun t29 _ =>
  fd 15 t29 (fun t30 _ =>
  ld1 t30 (fun t31 _ =>
  lnS t31 (fun t32 _ =>
  nck t0 (fun t34 _ =>
  fd 0 t34 (fun t35 _ =>
  fd 10 t35 (fun t36 _ =>
  ld1 t36 (fun t37 _ =>
  boI .geq t32 t37 (fun t38 _ =>
  s86_p5 K t0 t1 t2 t3 t38 w) w0) w0) w0) w0) w0) w0) w0) w0) w0
def s86_p6 (K : Value → World → Prop) (t0 t1 t2 t3 : Value) (w : World) : Prop := s86_p6_d K t0 t1 t2 t3 (drw w) (drw w)
def s86_p6_den (K : Value → World → Prop) : (Nat → Value) → World → Prop := denL Tryz.prog [(cd (Tryz.f86.body.getD .skip) [1, 1, 1, 0, 0])] (s86_p5_den K) (fun i => (fun _ _ => False)) (s86_R K)
theorem s86_p6_ok (K : Value → World → Prop) (s : Nat → Value) (w : World) (h : s86_p6 K (s 0) (s 1) (s 2) (s 3) w) : Tr (s86_p6_den K s w) :=
  tr_draw (P := Tryz.prog) (ops := (ro (cd (Tryz.f86.body.getD .skip) [1, 1, 1, 0, 0]))) (ms := [0, 1, 3, 7, 15, 0, 32, 96, 224, 480, 1023]) (cs := [0, 1, 2, 3, 4, 5, 6, 7, 8, 9, 10]) (N := (fun s w => s86_p5 K (s 0) (s 1) (s 2) (s 3) (s 38) w)) (N' := (s86_p5_den K)) (s := s) (w := w) (p := s86_p6 K (s 0) (s 1) (s 2) (s 3) w) (q := s86_p6_den K s w) (by kernel_rfl) (by kernel_rfl) (fun s w h => s86_p5_ok K s w @h) (by kernel_rfl) (by kernel_rfl) @h
def s86_p7 (K : Value → World → Prop) (t0 t1 t2 t3 : Value) (w : World) : Prop :=
  cl Tryz.prog 144 #[t0, t1, t2] (fun t16 w =>
  boI .neq t16 (.int .i64 0) (fun t18 w =>
  ifb t18
  (cl Tryz.prog 83 #[t16] (fun t20 w =>
  K t20 w) w)
  (cl Tryz.prog 145 #[t0, t3] (fun t23 w =>
  boI .neq t23 (.int .i64 0) (fun t25 w =>
  ifb t25
  (cl Tryz.prog 83 #[t23] (fun t27 w =>
  K t27 w) w)
  (s86_p6 K t0 t1 t2 t3 w)) w) w)) w) w
def s86_p7_den (K : Value → World → Prop) : (Nat → Value) → World → Prop := denL Tryz.prog [(cd (Tryz.f86.body.getD .skip) [0]), (cd (Tryz.f86.body.getD .skip) [1, 0, 0]), (cd (Tryz.f86.body.getD .skip) [1, 0, 1, 0]), (cd (Tryz.f86.body.getD .skip) [1, 0, 1, 1]), (cd (Tryz.f86.body.getD .skip) [1, 1, 0, 0]), (cd (Tryz.f86.body.getD .skip) [1, 1, 0, 1, 0]), (cd (Tryz.f86.body.getD .skip) [1, 1, 0, 1, 1])] (s86_p6_den K) (fun i => (fun _ _ => False)) (s86_R K)
theorem s86_p7_ok (K : Value → World → Prop) (s : Nat → Value) (w : World) (h : s86_p7 K (s 0) (s 1) (s 2) (s 3) w) : Tr (s86_p7_den K s w) :=
  tr_simple (P := Tryz.prog) (codes := [(cd (Tryz.f86.body.getD .skip) [0]), (cd (Tryz.f86.body.getD .skip) [1, 0, 0]), (cd (Tryz.f86.body.getD .skip) [1, 0, 1, 0]), (cd (Tryz.f86.body.getD .skip) [1, 0, 1, 1]), (cd (Tryz.f86.body.getD .skip) [1, 1, 0, 0]), (cd (Tryz.f86.body.getD .skip) [1, 1, 0, 1, 0]), (cd (Tryz.f86.body.getD .skip) [1, 1, 0, 1, 1])]) (N := (fun s w => s86_p6 K (s 0) (s 1) (s 2) (s 3) w)) (N' := (s86_p6_den K)) (X := (fun i => (fun _ _ => False))) (X' := (fun i => (fun _ _ => False))) (R := s86_R K) (s := s) (w := w) (p := s86_p7 K (s 0) (s 1) (s 2) (s 3) w) (q := s86_p7_den K s w) (fun s w h => s86_p6_ok K s w @h) (fun i => tr_id) (by kernel_rfl) (by kernel_rfl) @h
/-- the call, from the text -/
theorem c86 (t0 t1 t2 t3 : Value) {K : Value → World → Prop} {w : World} (h : s86_p7 K t0 t1 t2 t3 w) : cl Tryz.prog 86 #[t0, t1, t2, t3] K w :=
  calls_of_tr (c := (Tryz.f86.body.getD .skip)) (fn := Tryz.f86) (q := s86_p7_den K (st0 #[t0, t1, t2, t3]) w) Tryz.func86 (by kernel_rfl) (by kernel_rfl) (Nat.le_of_ble_eq_true (by kernel_rfl)) (by kernel_rfl) (by kernel_rfl) (s86_p7_ok K (st0 #[t0, t1, t2, t3]) w @h)

/-! ### function 87 : e2e.enginem.pairs -/
def s87_R (K : Value → World → Prop) (s : Nat → Value) (w : World) : Prop := retv Tryz.prog s Tryz.f87.results.toList (fun vs => K (pack vs) w) w
def s87_p1 (K : Value → World → Prop) (t3 : Value) (w : World) : Prop :=
  K t3 w
def s87_p1_den (K : Value → World → Prop) : (Nat → Value) → World → Prop := denL Tryz.prog [(cd (Tryz.f87.body.getD .skip) [1, 1, 1, 0]), (cd (Tryz.f87.body.getD .skip) [1, 1, 1, 1])] (fun _ _ => False) (fun i => (fun _ _ => False)) (s87_R K)
theorem s87_p1_ok (K : Value → World → Prop) (s : Nat → Value) (w : World) (h : s87_p1 K (s 3) w) : Tr (s87_p1_den K s w) :=
  tr_simple (P := Tryz.prog) (codes := [(cd (Tryz.f87.body.getD .skip) [1, 1, 1, 0]), (cd (Tryz.f87.body.getD .skip) [1, 1, 1, 1])]) (N := (fun _ _ => False)) (N' := (fun _ _ => False)) (X := (fun i => (fun _ _ => False))) (X' := (fun i => (fun _ _ => False))) (R := s87_R K) (s := s) (w := w) (p := s87_p1 K (s 3) w) (q := s87_p1_den K s w) tr_id (fun i => tr_id) (by kernel_rfl) (by kernel_rfl) @h
def s87_p2 (K : Value → World → Prop) (B1 : List Value → World → Prop) (t0 t3 t4 : Value) (w : World) : Prop :=
  boI .add t4 (.int .i64 2) (fun t12 w =>
  B1 [t0, t3, t12] w) w
def s87_p2_den (K : Value → World → Prop) (M1 : (Nat → Value) → World → Prop) : (Nat → Value) → World → Prop := denL Tryz.prog [(cd (Tryz.f87.body.getD .skip) [1, 1, 0, 1, 0, 0, 1, 1])] M1 (fun i => (bif Nat.beq i 0 then (s87_p1_den K) else (fun _ _ => False))) (s87_R K)
theorem s87_p2_ok (K : Value → World → Prop) (B1 : List Value → World → Prop) (s : Nat → Value) (w : World) (h : s87_p2 K B1 (s 0) (s 3) (s 4) w) : Tr (s87_p2_den K (fun s w => B1 [s 0, s 3, s 4] w) s w) :=
  tr_simple (P := Tryz.prog) (codes := [(cd (Tryz.f87.body.getD .skip) [1, 1, 0, 1, 0, 0, 1, 1])]) (N := (fun s w => B1 [s 0, s 3, s 4] w)) (N' := (fun s w => B1 [s 0, s 3, s 4] w)) (X := (fun i => (bif Nat.beq i 0 then (fun s w => s87_p1 K (s 3) w) else (fun _ _ => False)))) (X' := (fun i => (bif Nat.beq i 0 then (s87_p1_den K) else (fun _ _ => False)))) (R := s87_R K) (s := s) (w := w) (p := s87_p2 K B1 (s 0) (s 3) (s 4) w) (q := s87_p2_den K (fun s w => B1 [s 0, s 3, s 4] w) s w) tr_id (fun i => (tr_bif (fun s w h => s87_p1_ok K s w @h) tr_id)) (by kernel_rfl) (by kernel_rfl) @h
def s87_p3_d (K : Value → World → Prop) (B1 : List Value → World → Prop) (t0 t3 t4 : Value) (w0 w : World) : Prop :=
  ixs 1 t0 t4 (fun t16 _ =>
  ld1 t16 (fun t17 _ =>
  boI .add t4 (.int .i64 1) (fun t20 _ =>
  ixs 1 t0 t20 (fun t21 _ =>
  ld1 t21 (fun t22 _ =>
  bdq [(.int .i64 0), (.int .i64 0)] [(some (0, 1), t17), (some (1, 1), t22)] (fun t23 _ =>
  (Below w0.heap.size w0 w ∧
  bsq 88 [(.int .i64 0), (.int .i64 0)] 1 [(some (0, 2), t23)] (fun t24 w =>
  apq 88 [(.int .i64 0), (.int .i64 0)] 16 t3 t24 (fun t25 w =>
  s87_p2 K B1 t0 t25 t4 w) w) w) ∧
  (bsq 88 [(.int .i64 0), (.int .i64 0)] 1 [(some (0, 2), t23)] (fun t24_2 w =>
  Below w0.heap.size w0 w ∧
  apq 88 [(.int .i64 0), (.int .i64 0)] 16 t3 t24_2 (fun t25_2 w =>
  s87_p2 K B1 t0 t25_2 t4 w) w) w)) w0) w0) w0) w0) w0) w0
def s87_p3 (K : Value → World → Prop) (B1 : List Value → World → Prop) (t0 t3 t4 : Value) (w : World) : Prop := s87_p3_d K B1 t0 t3 t4 (drw w) (drw w)
def s87_p3_den (K : Value → World → Prop) (M1 : (Nat → Value) → World → Prop) : (Nat → Value) → World → Prop := denL Tryz.prog [(cd (Tryz.f87.body.getD .skip) [1, 1, 0, 1, 0, 0, 1, 0, 0])] (s87_p2_den K M1) (fun i => (bif Nat.beq i 1 then (s87_p2_den K M1) else (bif Nat.beq i 0 then (s87_p1_den K) else (fun _ _ => False)))) (s87_R K)
theorem s87_p3_ok (K : Value → World → Prop) (B1 : List Value → World → Prop) (s : Nat → Value) (w : World) (h : s87_p3 K B1 (s 0) (s 3) (s 4) w) : Tr (s87_p3_den K (fun s w => B1 [s 0, s 3, s 4] w) s w) :=
  tr_draw (P := Tryz.prog) (ops := (ro (cd (Tryz.f87.body.getD .skip) [1, 1, 0, 1, 0, 0, 1, 0, 0]))) (ms := [0, 0, 0, 6, 14, 0, 0, 64, 224, 480, 1022, 2046, 4095, 8191]) (cs := [1, 2, 3, 4, 5, 6, 7, 8, 9, 10]) (N := (fun s w => s87_p2 K B1 (s 0) (s 3) (s 4) w)) (N' := (s87_p2_den K (fun s w => B1 [s 0, s 3, s 4] w))) (s := s) (w := w) (p := s87_p3 K B1 (s 0) (s 3) (s 4) w) (q := s87_p3_den K (fun s w => B1 [s 0, s 3, s 4] w) s w) (by kernel_rfl) (by kernel_rfl) (fun s w h => s87_p2_ok K B1 s w @h) (by kernel_rfl) (by kernel_rfl) @h
def s87_p4 (K : Value → World → Prop) (B1 : List Value → World → Prop) (t0 t3 t4 : Value) (w : World) : Prop :=
  boI .add t4 (.int .i64 1) (fun t7 w =>
  lnS t0 (fun t9 w =>
  boI .lss t7 t9 (fun t10 w =>
  ifb t10
  (s87_p3 K B1 t0 t3 t4 w)
  (s87_p1 K t3 w)) w) w) w
def s87_p4_den (K : Value → World → Prop) (M1 : (Nat → Value) → World → Prop) : (Nat → Value) → World → Prop := denL Tryz.prog [(cd (Tryz.f87.body.getD .skip) [1, 1, 0, 1, 0, 0, 0, 0]), (cd (Tryz.f87.body.getD .skip) [1, 1, 0, 1, 0, 0, 0, 1])] (s87_p3_den K M1) (fun i => (bif Nat.beq i 0 then (s87_p1_den K) else (fun _ _ => False))) (s87_R K)
theorem s87_p4_ok (K : Value → World → Prop) (B1 : List Value → World → Prop) (s : Nat → Value) (w : World) (h : s87_p4 K B1 (s 0) (s 3) (s 4) w) : Tr (s87_p4_den K (fun s w => B1 [s 0, s 3, s 4] w) s w) :=
  tr_simple (P := Tryz.prog) (codes := [(cd (Tryz.f87.body.getD .skip) [1, 1, 0, 1, 0, 0, 0, 0]), (cd (Tryz.f87.body.getD .skip) [1, 1, 0, 1, 0, 0, 0, 1])]) (N := (fun s w => s87_p3 K B1 (s 0) (s 3) (s 4) w)) (N' := (s87_p3_den K (fun s w => B1 [s 0, s 3, s 4] w))) (X := (fun i => (bif Nat.beq i 0 then (fun s w => s87_p1 K (s 3) w) else (fun _ _ => False)))) (X' := (fun i => (bif Nat.beq i 0 then (s87_p1_den K) else (fun _ _ => False)))) (R := s87_R K) (s := s) (w := w) (p := s87_p4 K B1 (s 0) (s 3) (s 4) w) (q := s87_p4_den K (fun s w => B1 [s 0, s 3, s 4] w) s w) (fun s w h => s87_p3_ok K B1 s w @h) (fun i => (tr_bif (fun s w h => s87_p1_ok K s w @h) tr_id)) (by kernel_rfl) (by kernel_rfl) @h
def s87_p5_F (K : Value → World → Prop) (B1 : List Value → World → Prop) (l : List Value) (w : World) : Prop :=
  match l with
  | [t0, t3, t4] => s87_p4 K B1 t0 t3 t4 w
  | _ => False
theorem s87_p5_Fe {K : Value → World → Prop} {B1 : List Value → World → Prop} {t0 t3 t4 : Value} {w : World} : s87_p5_F K B1 [t0, t3, t4] w = s87_p4 K B1 t0 t3 t4 w := by kernel_rfl
def s87_p5 (K : Value → World → Prop) (t0 t3 t4 : Value) (w : World) : Prop :=
  LoopL (s87_p5_F K) [t0, t3, t4] w
def s87_p5_den (K : Value → World → Prop) : (Nat → Value) → World → Prop := fun s w => LoopP (fun M1 s w => s87_p4_den K M1 s w) s w
theorem s87_p5_ok (K : Value → World → Prop) (s : Nat → Value) (w : World) (h : s87_p5 K (s 0) (s 3) (s 4) w) : Tr (s87_p5_den K s w) :=
  tr_loop (G := fun N' s w => s87_p4_den K N' s w) (F := s87_p5_F K) (sel := fun s => [s 0, s 3, s 4]) (s := s) (w := w) (p := s87_p5 K (s 0) (s 3) (s 4) w) (q := s87_p5_den K s w) (fun B s w h => s87_p4_ok K B s w @h) (by kernel_rfl) (by kernel_rfl) @h
def s87_p6 (K : Value → World → Prop) (t0 : Value) (w : World) : Prop :=
  bsq 88 [(.int .i64 0), (.int .i64 0)] 0 [] (fun t5 w =>
  s87_p5 K t0 t5 (.int .i64 0) w) w
def s87_p6_den (K : Value → World → Prop) : (Nat → Value) → World → Prop := denL Tryz.prog [(cd (Tryz.f87.body.getD .skip) [0]), (cd (Tryz.f87.body.getD .skip) [1, 0]), (cd (Tryz.f87.body.getD .skip) [1, 1, 0, 0])] (s87_p5_den K) (fun i => (fun _ _ => False)) (s87_R K)
theorem s87_p6_ok (K : Value → World → Prop) (s : Nat → Value) (w : World) (h : s87_p6 K (s 0) w) : Tr (s87_p6_den K s w) :=
  tr_simple (P := Tryz.prog) (codes := [(cd (Tryz.f87.body.getD .skip) [0]), (cd (Tryz.f87.body.getD .skip) [1, 0]), (cd (Tryz.f87.body.getD .skip) [1, 1, 0, 0])]) (N := (fun s w => s87_p5 K (s 0) (s 3) (s 4) w)) (N' := (s87_p5_den K)) (X := (fun i => (fun _ _ => False))) (X' := (fun i => (fun _ _ => False))) (R := s87_R K) (s := s) (w := w) (p := s87_p6 K (s 0) w) (q := s87_p6_den K s w) (fun s w h => s87_p5_ok K s w @h) (fun i => tr_id) (by kernel_rfl) (by kernel_rfl) @h
/-- the call, from the text -/
theorem c87 (t0 : Value) {K : Value → World → Prop} {w : World} (h : s87_p6 K t0 w) : cl Tryz.prog 87 #[t0] K w :=
  calls_of_tr (c := (Tryz.f87.body.getD .skip)) (fn := Tryz.f87) (q := s87_p6_den K (st0 #[t0]) w) Tryz.func87 (by kernel_rfl) (by kernel_rfl) (Nat.le_of_ble_eq_true (by kernel_rfl)) (by kernel_rfl) (by kernel_rfl) (s87_p6_ok K (st0 #[t0]) w @h)

/-! ### function 88 : (*e2e.enginem.State).confirm -/
def s88_R (K : Value → World → Prop) (s : Nat → Value) (w : World) : Prop := retv Tryz.prog s Tryz.f88.results.toList (fun vs => K (pack vs) w) w
def s88_p1 (K : Value → World → Prop) (t5 t41 : Value) (w : World) : Prop :=
  ifb t41
  (cl Tryz.prog 83 #[(.int .i64 16)] (fun t42 w =>
  K t42 w) w)
  (nck t5 (fun t44 w =>
  fd 1 t44 (fun t45 w =>
  st1 t45 (.int .i64 2) (fun w =>
  bsq 3 [(.int .i64 0)] 1 [(some (0, 1), (.int .i64 2))] (fun t46 w =>
  cl Tryz.prog 99 #[(.int .u8 2), t46] (fun t47 w =>
  K t47 w) w) w) w) w) w)
def s88_p1_den (K : Value → World → Prop) : (Nat → Value) → World → Prop := denL Tryz.prog [(cd (Tryz.f88.body.getD .skip) [1, 1, 1, 1, 0, 1]), (cd (Tryz.f88.body.getD .skip) [1, 1, 1, 1, 1, 0]), (cd (Tryz.f88.body.getD .skip) [1, 1, 1, 1, 1, 1, 0]), (cd (Tryz.f88.body.getD .skip) [1, 1, 1, 1, 1, 1, 1])] (fun _ _ => False) (fun i => (fun _ _ => False)) (s88_R K)
theorem s88_p1_ok (K : Value → World → Prop) (s : Nat → Value) (w : World) (h : s88_p1 K (s 5) (s 41) w) : Tr (s88_p1_den K s w) :=
  tr_simple (P := Tryz.prog) (codes := [(cd (Tryz.f88.body.getD .skip) [1, 1, 1, 1, 0, 1]), (cd (Tryz.f88.body.getD .skip) [1, 1, 1, 1, 1, 0]), (cd (Tryz.f88.body.getD .skip) [1, 1, 1, 1, 1, 1, 0]), (cd (Tryz.f88.body.getD .skip) [1, 1, 1, 1, 1, 1, 1])]) (N := (fun _ _ => False)) (N' := (fun _ _ => False)) (X := (fun i => (fun _ _ => False))) (X' := (fun i => (fun _ _ => False))) (R := s88_R K) (s := s) (w := w) (p := s88_p1 K (s 5) (s 41) w) (q := s88_p1_den K s w) tr_id (fun i => tr_id) (by kernel_rfl) (by kernel_rfl) @h
def s88_p2_d (K : Value → World → Prop) (t0 t5 : Value) (w0 w : World) : Prop :=
  nck t0 (fun t25 _ =>
  fd 14 t25 (fun t26 _ =>
  ld1 t26 (fun t27 _ =>
  nck t5 (fun t29 _ =>
  fd 6 t29 (fun t30 _ =>
  ld1 t30 (fun t31 _ =>
  ixs 2 t31 (.int .i64 0) (fun t32 _ =>
  fd 1 t32 (fun t33 _ =>
  ld1 t33 (fun t34 _ =>
  nck t0 (fun t36 _ =>
  fd 0 t36 (fun t37 _ =>
  fd 7 t37 (fun t38 _ =>
  ld1 t38 (fun t39 _ =>
  boI .add t34 t39 (fun t40 _ =>
  boI .geq t27 t40 (fun t41 _ =>
  s88_p1 K t5 t41 w) w0) w0) w0) w0) w0) w0) w0) w0) w0) w0) w0) w0) w0) w0) w0
def s88_p2 (K : Value → World → Prop) (t0 t5 : Value) (w : World) : Prop := s88_p2_d K t0 t5 (drw w) (drw w)
def s88_p2_den (K : Value → World → Prop) : (Nat → Value) → World → Prop := denL Tryz.prog [(cd (Tryz.f88.body.getD .skip) [1, 1, 1, 1, 0, 0])] (s88_p1_den K) (fun i => (fun _ _ => False)) (s88_R K)
theorem s88_p2_ok (K : Value → World → Prop) (s : Nat → Value) (w : World) (h : s88_p2 K (s 0) (s 5) w) : Tr (s88_p2_den K s w) :=
  tr_draw (P := Tryz.prog) (ops := (ro (cd (Tryz.f88.body.getD .skip) [1, 1, 1, 1, 0, 0]))) (ms := [0, 1, 3, 7, 0, 16, 48, 112, 240, 496, 1008, 0, 2048, 6144, 14336, 30720, 65520, 131071]) (cs := [0, 1, 2, 3, 4, 5, 6, 7, 8, 9, 10, 11, 12, 13, 14, 15, 16, 17]) (N := (fun s w => s88_p1 K (s 5) (s 41) w)) (N' := (s88_p1_den K)) (s := s) (w := w) (p := s88_p2 K (s 0) (s 5) w) (q := s88_p2_den K s w) (by kernel_rfl) (by kernel_rfl) (fun s w h => s88_p1_ok K s w @h) (by kernel_rfl) (by kernel_rfl) @h
def s88_p3 (K : Value → World → Prop) (t0 t1 : Value) (w : World) : Prop :=
  cl Tryz.prog 148 #[t0, t1] (fun t8 w =>
  un .not t8 (fun t9 w =>
  ifb t9
  (cl Tryz.prog 83 #[(.int .i64 2)] (fun t10 w =>
  K t10 w) w)
  (nck t0 (fun t12 w =>
  fd 15 t12 (fun t13 w =>
  ld1 t13 (fun t14 w =>
  boI .sub t1 (.int .i64 1) (fun t16 w =>
  ixs 7 t14 t16 (fun t17 w =>
  nck t17 (fun t19 w =>
  fd 1 t19 (fun t20 w =>
  ld1 t20 (fun t21 w =>
  boI .neq t21 (.int .i64 1) (fun t22 w =>
  ifb t22
  (cl Tryz.prog 83 #[(.int .i64 8)] (fun t23 w =>
  K t23 w) w)
  (s88_p2 K t0 t17 w)) w) w) w) w) w) w) w) w) w)) w) w
def s88_p3_den (K : Value → World → Prop) : (Nat → Value) → World → Prop := denL Tryz.prog [(cd (Tryz.f88.body.getD .skip) [0]), (cd (Tryz.f88.body.getD .skip) [1, 0, 0]), (cd (Tryz.f88.body.getD .skip) [1, 0, 1]), (cd (Tryz.f88.body.getD .skip) [1, 1, 0]), (cd (Tryz.f88.body.getD .skip) [1, 1, 1, 0, 0]), (cd (Tryz.f88.body.getD .skip) [1, 1, 1, 0, 1])] (s88_p2_den K) (fun i => (fun _ _ => False)) (s88_R K)
theorem s88_p3_ok (K : Value → World → Prop) (s : Nat → Value) (w : World) (h : s88_p3 K (s 0) (s 1) w) : Tr (s88_p3_den K s w) :=
  tr_simple (P := Tryz.prog) (codes := [(cd (Tryz.f88.body.getD .skip) [0]), (cd (Tryz.f88.body.getD .skip) [1, 0, 0]), (cd (Tryz.f88.body.getD .skip) [1, 0, 1]), (cd (Tryz.f88.body.getD .skip) [1, 1, 0]), (cd (Tryz.f88.body.getD .skip) [1, 1, 1, 0, 0]), (cd (Tryz.f88.body.getD .skip) [1, 1, 1, 0, 1])]) (N := (fun s w => s88_p2 K (s 0) (s 5) w)) (N' := (s88_p2_den K)) (X := (fun i => (fun _ _ => False))) (X' := (fun i => (fun _ _ => False))) (R := s88_R K) (s := s) (w := w) (p := s88_p3 K (s 0) (s 1) w) (q := s88_p3_den K s w) (fun s w h => s88_p2_ok K s w @h) (fun i => tr_id) (by kernel_rfl) (by kernel_rfl) @h
/-- the call, from the text -/
theorem c88 (t0 t1 : Value) {K : Value → World → Prop} {w : World} (h : s88_p3 K t0 t1 w) : cl Tryz.prog 88 #[t0, t1] K w :=
  calls_of_tr (c := (Tryz.f88.body.getD .skip)) (fn := Tryz.f88) (q := s88_p3_den K (st0 #[t0, t1]) w) Tryz.func88 (by kernel_rfl) (by kernel_rfl) (Nat.le_of_ble_eq_true (by kernel_rfl)) (by kernel_rfl) (by kernel_rfl) (s88_p3_ok K (st0 #[t0, t1]) w @h)

/-! ### function 89 : (*e2e.enginem.State).cancel -/
def s89_R (K : Value → World → Prop) (s : Nat → Value) (w : World) : Prop := retv Tryz.prog s Tryz.f89.results.toList (fun vs => K (pack vs) w) w
def s89_p1 (K : Value → World → Prop) (t0 t1 : Value) (w : World) : Prop :=
  cl Tryz.prog 148 #[t0, t1] (fun t8 w =>
  un .not t8 (fun t9 w =>
  ifb t9
  (cl Tryz.prog 83 #[(.int .i64 2)] (fun t10 w =>
  K t10 w) w)
  (nck t0 (fun t12 w =>
  fd 15 t12 (fun t13 w =>
  ld1 t13 (fun t14 w =>
  boI .sub t1 (.int .i64 1) (fun t16 w =>
  ixs 7 t14 t16 (fun t17 w =>
  nck t17 (fun t19 w =>
  fd 1 t19 (fun t20 w =>
  ld1 t20 (fun t21 w =>
  boI .neq t21 (.int .i64 1) (fun t22 w =>
  gd t22 true (fun K w => K t17 w) (fun t24 w =>
  gd t22 true (nck t24) (fun t25 w =>
  gd t22 true (fd 1 t25) (fun t26 w =>
  gd t22 true (ld1 t26) (fun t27 w =>
  gd t22 true (boI .neq t27 (.int .i64 2)) (fun t28 w =>
  pk t22 t28 (.bool false) (fun t29 w =>
  gd t29 true (fun K w => K t17 w) (fun t31 w =>
  gd t29 true (nck t31) (fun t32 w =>
  gd t29 true (fd 1 t32) (fun t33 w =>
  gd t29 true (ld1 t33) (fun t34 w =>
  gd t29 true (boI .neq t34 (.int .i64 8)) (fun t35 w =>
  pk t29 t35 (.bool false) (fun t36 w =>
  ifb t36
  (cl Tryz.prog 83 #[(.int .i64 8)] (fun t37 w =>
  K t37 w) w)
  (nck t17 (fun t39 w =>
  fd 1 t39 (fun t40 w =>
  st1 t40 (.int .i64 4) (fun w =>
  bsq 3 [(.int .i64 0)] 1 [(some (0, 1), (.int .i64 4))] (fun t41 w =>
  cl Tryz.prog 99 #[(.int .u8 3), t41] (fun t42 w =>
  K t42 w) w) w) w) w) w)) w) w) w) w) w) w) w) w) w) w) w) w) w) w) w) w) w) w) w) w) w)) w) w
def s89_p1_den (K : Value → World → Prop) : (Nat → Value) → World → Prop := denL Tryz.prog [(cd (Tryz.f89.body.getD .skip) [0]), (cd (Tryz.f89.body.getD .skip) [1, 0, 0]), (cd (Tryz.f89.body.getD .skip) [1, 0, 1]), (cd (Tryz.f89.body.getD .skip) [1, 1, 0]), (cd (Tryz.f89.body.getD .skip) [1, 1, 1, 0, 0]), (cd (Tryz.f89.body.getD .skip) [1, 1, 1, 0, 1]), (cd (Tryz.f89.body.getD .skip) [1, 1, 1, 1, 0]), (cd (Tryz.f89.body.getD .skip) [1, 1, 1, 1, 1, 0]), (cd (Tryz.f89.body.getD .skip) [1, 1, 1, 1, 1, 1])] (fun _ _ => False) (fun i => (fun _ _ => False)) (s89_R K)
theorem s89_p1_ok (K : Value → World → Prop) (s : Nat → Value) (w : World) (h : s89_p1 K (s 0) (s 1) w) : Tr (s89_p1_den K s w) :=
  tr_simple (P := Tryz.prog) (codes := [(cd (Tryz.f89.body.getD .skip) [0]), (cd (Tryz.f89.body.getD .skip) [1, 0, 0]), (cd (Tryz.f89.body.getD .skip) [1, 0, 1]), (cd (Tryz.f89.body.getD .skip) [1, 1, 0]), (cd (Tryz.f89.body.getD .skip) [1, 1, 1, 0, 0]), (cd (Tryz.f89.body.getD .skip) [1, 1, 1, 0, 1]), (cd (Tryz.f89.body.getD .skip) [1, 1, 1, 1, 0]), (cd (Tryz.f89.body.getD .skip) [1, 1, 1, 1, 1, 0]), (cd (Tryz.f89.body.getD .skip) [1, 1, 1, 1, 1, 1])]) (N := (fun _ _ => False)) (N' := (fun _ _ => False)) (X := (fun i => (fun _ _ => False))) (X' := (fun i => (fun _ _ => False))) (R := s89_R K) (s := s) (w := w) (p := s89_p1 K (s 0) (s 1) w) (q := s89_p1_den K s w) tr_id (fun i => tr_id) (by kernel_rfl) (by kernel_rfl) @h
/-- the call, from the text -/
theorem c89 (t0 t1 : Value) {K : Value → World → Prop} {w : World} (h : s89_p1 K t0 t1 w) : cl Tryz.prog 89 #[t0, t1] K w :=
  calls_of_tr (c := (Tryz.f89.body.getD .skip)) (fn := Tryz.f89) (q := s89_p1_den K (st0 #[t0, t1]) w) Tryz.func89 (by kernel_rfl) (by kernel_rfl) (Nat.le_of_ble_eq_true (by kernel_rfl)) (by kernel_rfl) (by kernel_rfl) (s89_p1_ok K (st0 #[t0, t1]) w @h)

/-! ### function 90 : (*e2e.enginem.State).arrive -/
def s90_R (K : Value → World → Prop) (s : Nat → Value) (w : World) : Prop := retv Tryz.prog s Tryz.f90.results.toList (fun vs => K (pack vs) w) w
def s90_p1 (K : Value → World → Prop) (t1 t9 t40 : Value) (w : World) : Prop :=
  ifb t40
  (cl Tryz.prog 83 #[(.int .i64 15)] (fun t41 w =>
  K t41 w) w)
  (nck t9 (fun t43 w =>
  fd 1 t43 (fun t44 w =>
  st1 t44 (.int .i64 3) (fun w =>
  bsq 3 [(.int .i64 0)] 1 [(some (0, 1), (.int .i64 3))] (fun t46 w =>
  cl Tryz.prog 99 #[t1, t46] (fun t47 w =>
  K t47 w) w) w) w) w) w)
def s90_p1_den (K : Value → World → Prop) : (Nat → Value) → World → Prop := denL Tryz.prog [(cd (Tryz.f90.body.getD .skip) [1, 1, 1, 1, 0, 1]), (cd (Tryz.f90.body.getD .skip) [1, 1, 1, 1, 1, 0]), (cd (Tryz.f90.body.getD .skip) [1, 1, 1, 1, 1, 1, 0]), (cd (Tryz.f90.body.getD .skip) [1, 1, 1, 1, 1, 1, 1])] (fun _ _ => False) (fun i => (fun _ _ => False)) (s90_R K)
theorem s90_p1_ok (K : Value → World → Prop) (s : Nat → Value) (w : World) (h : s90_p1 K (s 1) (s 9) (s 40) w) : Tr (s90_p1_den K s w) :=
  tr_simple (P := Tryz.prog) (codes := [(cd (Tryz.f90.body.getD .skip) [1, 1, 1, 1, 0, 1]), (cd (Tryz.f90.body.getD .skip) [1, 1, 1, 1, 1, 0]), (cd (Tryz.f90.body.getD .skip) [1, 1, 1, 1, 1, 1, 0]), (cd (Tryz.f90.body.getD .skip) [1, 1, 1, 1, 1, 1, 1])]) (N := (fun _ _ => False)) (N' := (fun _ _ => False)) (X := (fun i => (fun _ _ => False))) (X' := (fun i => (fun _ _ => False))) (R := s90_R K) (s := s) (w := w) (p := s90_p1 K (s 1) (s 9) (s 40) w) (q := s90_p1_den K s w) tr_id (fun i => tr_id) (by kernel_rfl) (by kernel_rfl) @h
def s90_p2_d (K : Value → World → Prop) (t0 t1 t9 : Value) (w0 w : World) : Prop :=
  nck t0 (fun t30 _ =>
  fd 14 t30 (fun t31 _ =>
  ld1 t31 (fun t32 _ =>
  nck t9 (fun t34 _ =>
  fd 6 t34 (fun t35 _ =>
  ld1 t35 (fun t36 _ =>
  ixs 2 t36 (.int .i64 0) (fun t37 _ =>
  fd 1 t37 (fun t38 _ =>
  ld1 t38 (fun t39 _ =>
  boI .lss t32 t39 (fun t40 _ =>
  s90_p1 K t1 t9 t40 w) w0) w0) w0) w0) w0) w0) w0) w0) w0) w0
def s90_p2 (K : Value → World → Prop) (t0 t1 t9 : Value) (w : World) : Prop := s90_p2_d K t0 t1 t9 (drw w) (drw w)
def s90_p2_den (K : Value → World → Prop) : (Nat → Value) → World → Prop := denL Tryz.prog [(cd (Tryz.f90.body.getD .skip) [1, 1, 1, 1, 0, 0])] (s90_p1_den K) (fun i => (fun _ _ => False)) (s90_R K)
theorem s90_p2_ok (K : Value → World → Prop) (s : Nat → Value) (w : World) (h : s90_p2 K (s 0) (s 1) (s 9) w) : Tr (s90_p2_den K s w) :=
  tr_draw (P := Tryz.prog) (ops := (ro (cd (Tryz.f90.body.getD .skip) [1, 1, 1, 1, 0, 0]))) (ms := [0, 1, 3, 7, 0, 16, 48, 112, 240, 496, 1008, 2047]) (cs := [0, 1, 2, 3, 4, 5, 6, 7, 8, 9, 10, 11]) (N := (fun s w => s90_p1 K (s 1) (s 9) (s 40) w)) (N' := (s90_p1_den K)) (s := s) (w := w) (p := s90_p2 K (s 0) (s 1) (s 9) w) (q := s90_p2_den K s w) (by kernel_rfl) (by kernel_rfl) (fun s w h => s90_p1_ok K s w @h) (by kernel_rfl) (by kernel_rfl) @h
def s90_p3 (K : Value → World → Prop) (t0 t1 t2 t3 : Value) (w : World) : Prop :=
  cl Tryz.prog 148 #[t0, t2] (fun t12 w =>
  un .not t12 (fun t13 w =>
  ifb t13
  (cl Tryz.prog 83 #[(.int .i64 2)] (fun t14 w =>
  K t14 w) w)
  (nck t0 (fun t16 w =>
  fd 15 t16 (fun t17 w =>
  ld1 t17 (fun t18 w =>
  boI .sub t2 (.int .i64 1) (fun t20 w =>
  ixs 7 t18 t20 (fun t21 w =>
  nck t21 (fun t23 w =>
  fd 1 t23 (fun t24 w =>
  ld1 t24 (fun t25 w =>
  boI .neq t25 t3 (fun t27 w =>
  ifb t27
  (cl Tryz.prog 83 #[(.int .i64 8)] (fun t28 w =>
  K t28 w) w)
  (s90_p2 K t0 t1 t21 w)) w) w) w) w) w) w) w) w) w)) w) w
def s90_p3_den (K : Value → World → Prop) : (Nat → Value) → World → Prop := denL Tryz.prog [(cd (Tryz.f90.body.getD .skip) [0]), (cd (Tryz.f90.body.getD .skip) [1, 0, 0]), (cd (Tryz.f90.body.getD .skip) [1, 0, 1]), (cd (Tryz.f90.body.getD .skip) [1, 1, 0]), (cd (Tryz.f90.body.getD .skip) [1, 1, 1, 0, 0]), (cd (Tryz.f90.body.getD .skip) [1, 1, 1, 0, 1])] (s90_p2_den K) (fun i => (fun _ _ => False)) (s90_R K)
theorem s90_p3_ok (K : Value → World → Prop) (s : Nat → Value) (w : World) (h : s90_p3 K (s 0) (s 1) (s 2) (s 3) w) : Tr (s90_p3_den K s w) :=
  tr_simple (P := Tryz.prog) (codes := [(cd (Tryz.f90.body.getD .skip) [0]), (cd (Tryz.f90.body.getD .skip) [1, 0, 0]), (cd (Tryz.f90.body.getD .skip) [1, 0, 1]), (cd (Tryz.f90.body.getD .skip) [1, 1, 0]), (cd (Tryz.f90.body.getD .skip) [1, 1, 1, 0, 0]), (cd (Tryz.f90.body.getD .skip) [1, 1, 1, 0, 1])]) (N := (fun s w => s90_p2 K (s 0) (s 1) (s 9) w)) (N' := (s90_p2_den K)) (X := (fun i => (fun _ _ => False))) (X' := (fun i => (fun _ _ => False))) (R := s90_R K) (s := s) (w := w) (p := s90_p3 K (s 0) (s 1) (s 2) (s 3) w) (q := s90_p3_den K s w) (fun s w h => s90_p2_ok K s w @h) (fun i => tr_id) (by kernel_rfl) (by kernel_rfl) @h
/-- the call, from the text -/
theorem c90 (t0 t1 t2 t3 : Value) {K : Value → World → Prop} {w : World} (h : s90_p3 K t0 t1 t2 t3 w) : cl Tryz.prog 90 #[t0, t1, t2, t3] K w :=
  calls_of_tr (c := (Tryz.f90.body.getD .skip)) (fn := Tryz.f90) (q := s90_p3_den K (st0 #[t0, t1, t2, t3]) w) Tryz.func90 (by kernel_rfl) (by kernel_rfl) (Nat.le_of_ble_eq_true (by kernel_rfl)) (by kernel_rfl) (by kernel_rfl) (s90_p3_ok K (st0 #[t0, t1, t2, t3]) w @h)

/-! ### function 91 : (*e2e.enginem.State).rebook -/
def s91_R (K : Value → World → Prop) (s : Nat → Value) (w : World) : Prop := retv Tryz.prog s Tryz.f91.results.toList (fun vs => K (pack vs) w) w
def s91_p1 (K : Value → World → Prop) (t0 t1 t2 : Value) (w : World) : Prop :=
  cl Tryz.prog 145 #[t0, t2] (fun t13 w =>
  boI .neq t13 (.int .i64 0) (fun t15 w =>
  ifb t15
  (cl Tryz.prog 83 #[t13] (fun t17 w =>
  K t17 w) w)
  (cl Tryz.prog 148 #[t0, t1] (fun t20 w =>
  un .not t20 (fun t21 w =>
  ifb t21
  (cl Tryz.prog 83 #[(.int .i64 2)] (fun t22 w =>
  K t22 w) w)
  (nck t0 (fun t24 w =>
  fd 15 t24 (fun t25 w =>
  ld1 t25 (fun t26 w =>
  boI .sub t1 (.int .i64 1) (fun t28 w =>
  ixs 7 t26 t28 (fun t29 w =>
  fd 1 t29 (fun t30 w =>
  ld1 t30 (fun t31 w =>
  boI .neq t31 (.int .i64 1) (fun t33 w =>
  gd t33 true (fun K w => K t31 w) (fun t35 w =>
  gd t33 true (boI .neq t35 (.int .i64 2)) (fun t36 w =>
  pk t33 t36 (.bool false) (fun t37 w =>
  ifb t37
  (cl Tryz.prog 83 #[(.int .i64 8)] (fun t38 w =>
  K t38 w) w)
  (cl Tryz.prog 149 #[t0] (fun t40 w =>
  nck t40 (fun t42 w =>
  fd 15 t42 (fun t43 w =>
  ld1 t43 (fun t44 w =>
  boI .sub t1 (.int .i64 1) (fun t46 w =>
  ixs 7 t44 t46 (fun t48 w =>
  fd 6 t48 (fun t49 w =>
  st1 t49 t2 (fun w =>
  cl Tryz.prog 147 #[t40] (fun t51 w =>
  boI .neq t51 (.int .i64 0) (fun t53 w =>
  ifb t53
  (cl Tryz.prog 83 #[t51] (fun t55 w =>
  K t55 w) w)
  (nck t40 (fun t58 w =>
  ldn 17 t58 (fun t59 w =>
  nck t0 (fun t60 w =>
  stn 17 t60 t59 (fun w =>
  nck t0 (fun t62 w =>
  fd 15 t62 (fun t63 w =>
  ld1 t63 (fun t64 w =>
  boI .sub t1 (.int .i64 1) (fun t66 w =>
  ixs 7 t64 t66 (fun t67 w =>
  fd 1 t67 (fun t68 w =>
  ld1 t68 (fun t69 w =>
  bsq 3 [(.int .i64 0)] 1 [(some (0, 1), t69)] (fun t70 w =>
  cl Tryz.prog 99 #[(.int .u8 5), t70] (fun t71 w =>
  K t71 w) w) w) w) w) w) w) w) w) w) w) w) w) w)) w) w) w) w) w) w) w) w) w) w)) w) w) w) w) w) w) w) w) w) w) w)) w) w)) w) w
def s91_p1_den (K : Value → World → Prop) : (Nat → Value) → World → Prop := denL Tryz.prog [(cd (Tryz.f91.body.getD .skip) [0]), (cd (Tryz.f91.body.getD .skip) [1, 0, 0]), (cd (Tryz.f91.body.getD .skip) [1, 0, 1, 0]), (cd (Tryz.f91.body.getD .skip) [1, 0, 1, 1]), (cd (Tryz.f91.body.getD .skip) [1, 1, 0, 0]), (cd (Tryz.f91.body.getD .skip) [1, 1, 0, 1]), (cd (Tryz.f91.body.getD .skip) [1, 1, 1, 0, 0]), (cd (Tryz.f91.body.getD .skip) [1, 1, 1, 0, 1, 0]), (cd (Tryz.f91.body.getD .skip) [1, 1, 1, 0, 1, 1]), (cd (Tryz.f91.body.getD .skip) [1, 1, 1, 1, 0]), (cd (Tryz.f91.body.getD .skip) [1, 1, 1, 1, 1, 0]), (cd (Tryz.f91.body.getD .skip) [1, 1, 1, 1, 1, 1, 0, 0]), (cd (Tryz.f91.body.getD .skip) [1, 1, 1, 1, 1, 1, 0, 1, 0]), (cd (Tryz.f91.body.getD .skip) [1, 1, 1, 1, 1, 1, 0, 1, 1]), (cd (Tryz.f91.body.getD .skip) [1, 1, 1, 1, 1, 1, 1, 0]), (cd (Tryz.f91.body.getD .skip) [1, 1, 1, 1, 1, 1, 1, 1, 0]), (cd (Tryz.f91.body.getD .skip) [1, 1, 1, 1, 1, 1, 1, 1, 1])] (fun _ _ => False) (fun i => (fun _ _ => False)) (s91_R K)
theorem s91_p1_ok (K : Value → World → Prop) (s : Nat → Value) (w : World) (h : s91_p1 K (s 0) (s 1) (s 2) w) : Tr (s91_p1_den K s w) :=
  tr_simple (P := Tryz.prog) (codes := [(cd (Tryz.f91.body.getD .skip) [0]), (cd (Tryz.f91.body.getD .skip) [1, 0, 0]), (cd (Tryz.f91.body.getD .skip) [1, 0, 1, 0]), (cd (Tryz.f91.body.getD .skip) [1, 0, 1, 1]), (cd (Tryz.f91.body.getD .skip) [1, 1, 0, 0]), (cd (Tryz.f91.body.getD .skip) [1, 1, 0, 1]), (cd (Tryz.f91.body.getD .skip) [1, 1, 1, 0, 0]), (cd (Tryz.f91.body.getD .skip) [1, 1, 1, 0, 1, 0]), (cd (Tryz.f91.body.getD .skip) [1, 1, 1, 0, 1, 1]), (cd (Tryz.f91.body.getD .skip) [1, 1, 1, 1, 0]), (cd (Tryz.f91.body.getD .skip) [1, 1, 1, 1, 1, 0]), (cd (Tryz.f91.body.getD .skip) [1, 1, 1, 1, 1, 1, 0, 0]), (cd (Tryz.f91.body.getD .skip) [1, 1, 1, 1, 1, 1, 0, 1, 0]), (cd (Tryz.f91.body.getD .skip) [1, 1, 1, 1, 1, 1, 0, 1, 1]), (cd (Tryz.f91.body.getD .skip) [1, 1, 1, 1, 1, 1, 1, 0]), (cd (Tryz.f91.body.getD .skip) [1, 1, 1, 1, 1, 1, 1, 1, 0]), (cd (Tryz.f91.body.getD .skip) [1, 1, 1, 1, 1, 1, 1, 1, 1])]) (N := (fun _ _ => False)) (N' := (fun _ _ => False)) (X := (fun i => (fun _ _ => False))) (X' := (fun i => (fun _ _ => False))) (R := s91_R K) (s := s) (w := w) (p := s91_p1 K (s 0) (s 1) (s 2) w) (q := s91_p1_den K s w) tr_id (fun i => tr_id) (by kernel_rfl) (by kernel_rfl) @h
/-- the call, from the text -/
theorem c91 (t0 t1 t2 : Value) {K : Value → World → Prop} {w : World} (h : s91_p1 K t0 t1 t2 w) : cl Tryz.prog 91 #[t0, t1, t2] K w :=
  calls_of_tr (c := (Tryz.f91.body.getD .skip)) (fn := Tryz.f91) (q := s91_p1_den K (st0 #[t0, t1, t2]) w) Tryz.func91 (by kernel_rfl) (by kernel_rfl) (Nat.le_of_ble_eq_true (by kernel_rfl)) (by kernel_rfl) (by kernel_rfl) (s91_p1_ok K (st0 #[t0, t1, t2]) w @h)

/-! ### function 92 : (*e2e.enginem.State).join -/
def s92_R (K : Value → World → Prop) (s : Nat → Value) (w : World) : Prop := retv Tryz.prog s Tryz.f92.results.toList (fun vs => K (pack vs) w) w
def s92_p1 (K : Value → World → Prop) (t8 : Value) (w : World) : Prop :=
  K t8 w
def s92_p1_den (K : Value → World → Prop) : (Nat → Value) → World → Prop := denL Tryz.prog [(cd (Tryz.f92.body.getD .skip) [1, 1, 1, 1, 1, 1, 1, 1])] (fun _ _ => False) (fun i => (fun _ _ => False)) (s92_R K)
theorem s92_p1_ok (K : Value → World → Prop) (s : Nat → Value) (w : World) (h : s92_p1 K (s 8) w) : Tr (s92_p1_den K s w) :=
  tr_simple (P := Tryz.prog) (codes := [(cd (Tryz.f92.body.getD .skip) [1, 1, 1, 1, 1, 1, 1, 1])]) (N := (fun _ _ => False)) (N' := (fun _ _ => False)) (X := (fun i => (fun _ _ => False))) (X' := (fun i => (fun _ _ => False))) (R := s92_R K) (s := s) (w := w) (p := s92_p1 K (s 8) w) (q := s92_p1_den K s w) tr_id (fun i => tr_id) (by kernel_rfl) (by kernel_rfl) @h
def s92_p2_d (K : Value → World → Prop) (t0 t1 : Value) (w0 w : World) : Prop :=
  nck t0 (fun t86 _ =>
  fd 15 t86 (fun t87 _ =>
  ld1 t87 (fun t88 _ =>
  lnS t88 (fun t89 _ =>
  nck t0 (fun t91 _ =>
  fd 16 t91 (fun t92 _ =>
  ld1 t92 (fun t93 _ =>
  ixs 1 t93 t1 (fun t95 _ =>
  ld1 t95 (fun t96 _ =>
  lnS t96 (fun t97 _ =>
  bsq 3 [(.int .i64 0)] 2 [(some (0, 1), t89), (some (1, 1), t97)] (fun t98 w =>
  cl Tryz.prog 99 #[(.int .u8 6), t98] (fun t99 w =>
  s92_p1 K t99 w) w) w) w0) w0) w0) w0) w0) w0) w0) w0) w0) w0
def s92_p2 (K : Value → World → Prop) (t0 t1 : Value) (w : World) : Prop := s92_p2_d K t0 t1 (drw w) (drw w)
def s92_p2_den (K : Value → World → Prop) : (Nat → Value) → World → Prop := denL Tryz.prog [(cd (Tryz.f92.body.getD .skip) [1, 1, 1, 1, 1, 1, 1, 0])] (s92_p1_den K) (fun i => (fun _ _ => False)) (s92_R K)
theorem s92_p2_ok (K : Value → World → Prop) (s : Nat → Value) (w : World) (h : s92_p2 K (s 0) (s 1) w) : Tr (s92_p2_den K s w) :=
  tr_draw (P := Tryz.prog) (ops := (ro (cd (Tryz.f92.body.getD .skip) [1, 1, 1, 1, 1, 1, 1, 0]))) (ms := [0, 1, 3, 7, 15, 0, 32, 96, 224, 0, 992, 2016, 4064, 8191, 16383, 32767]) (cs := [0, 1, 2, 3, 4, 5, 6, 7, 8, 9, 10, 11, 12]) (N := (fun s w => s92_p1 K (s 8) w)) (N' := (s92_p1_den K)) (s := s) (w := w) (p := s92_p2 K (s 0) (s 1) w) (q := s92_p2_den K s w) (by kernel_rfl) (by kernel_rfl) (fun s w h => s92_p1_ok K s w @h) (by kernel_rfl) (by kernel_rfl) @h
def s92_p3_d (K : Value → World → Prop) (J : World → Prop) (t0 t1 : Value) (w0 w : World) : Prop :=
  nck t0 (fun t66 _ =>
  fd 16 t66 (fun t67 _ =>
  Go.Sh.R.qw J (ld1 t67) (fun t68 =>
  nck t0 (fun t71 _ =>
  fd 16 t71 (fun t72 _ =>
  Go.Sh.R.qw J (ld1 t72) (fun t73 =>
  ixs 1 t73 t1 (fun t75 _ =>
  Go.Sh.R.qw J (ld1 t75) (fun t76 =>
  nck t0 (fun t78 _ =>
  fd 15 t78 (fun t79 _ =>
  Go.Sh.R.qw J (ld1 t79) (fun t80 =>
  lnS t80 (fun t81 _ =>
  ixs 1 t68 t1 (fun t84 _ =>
  bsq 3 [(.int .i64 0)] 1 [(some (0, 1), t81)] (fun t82 w =>
  J w ∧
  apq 3 [(.int .i64 0)] 8 t76 t82 (fun t83 w =>
  J w ∧
  st1 t84 t83 (fun w =>
  s92_p2 K t0 t1 w) w) w) w) w0) w0)) w0) w0)) w0)) w0) w0)) w0) w0
def s92_p3 (K : Value → World → Prop) (t0 t1 : Value) (w : World) : Prop := ∃ J : World → Prop, J (drw w) ∧ s92_p3_d K J t0 t1 (drw w) (drw w)
def s92_p3_den (K : Value → World → Prop) : (Nat → Value) → World → Prop := denL Tryz.prog [(cd (Tryz.f92.body.getD .skip) [1, 1, 1, 1, 1, 1, 0])] (s92_p2_den K) (fun i => (fun _ _ => False)) (s92_R K)
theorem s92_p3_ok (K : Value → World → Prop) (s : Nat → Value) (w : World) (h : s92_p3 K (s 0) (s 1) w) : Tr (s92_p3_den K s w) :=
  Go.Sh.R.tr_drawR (P := Tryz.prog) (ops := (ro (cd (Tryz.f92.body.getD .skip) [1, 1, 1, 1, 1, 1, 0]))) (ms := [0, 1, 3, 7, 0, 0, 32, 96, 224, 0, 992, 2016, 0, 4096, 12288, 28672, 61440, 126976, 262112, 524287, 1048575]) (cs := [0, 1, 2, 3, 4, 5, 6, 7, 8, 9, 10, 11, 12, 13, 14, 15, 16, 19]) (N := (fun s w => s92_p2 K (s 0) (s 1) w)) (N' := (s92_p2_den K)) (s := s) (w := w) (p := fun J => s92_p3_d K J (s 0) (s 1) (drw w) (drw w)) (q := s92_p3_den K s w) (by kernel_rfl) (by kernel_rfl) (fun s w h => s92_p2_ok K s w @h) (by kernel_rfl) (by kernel_rfl) @h
def s92_p4 (K : Value → World → Prop) (t0 t1 t2 t3 t52 : Value) (w : World) : Prop :=
  ifb t52
  (cl Tryz.prog 83 #[(.int .i64 9)] (fun t53 w =>
  K t53 w) w)
  (boI .add t1 (.int .i64 1) (fun t59 w =>
  bdq [(.int .i64 0), (.int .i64 0), (.int .i64 0), (.int .i64 0), (.int .i64 0), (.int .i64 0), (.slice none 0 0)] [(some (1, 1), (.int .i64 7)), (some (2, 1), t2), (some (3, 1), t3), (some (4, 1), t59)] (fun t60 w =>
  cl Tryz.prog 146 #[t0, t60] (fun t61 w =>
  nck t61 (fun t62 w =>
  ldn 17 t62 (fun t63 w =>
  nck t0 (fun t64 w =>
  stn 17 t64 t63 (fun w =>
  s92_p3 K t0 t1 w) w) w) w) w) w) w) w)
def s92_p4_den (K : Value → World → Prop) : (Nat → Value) → World → Prop := denL Tryz.prog [(cd (Tryz.f92.body.getD .skip) [1, 1, 1, 1, 0, 1]), (cd (Tryz.f92.body.getD .skip) [1, 1, 1, 1, 1, 0])] (s92_p3_den K) (fun i => (fun _ _ => False)) (s92_R K)
theorem s92_p4_ok (K : Value → World → Prop) (s : Nat → Value) (w : World) (h : s92_p4 K (s 0) (s 1) (s 2) (s 3) (s 52) w) : Tr (s92_p4_den K s w) :=
  tr_simple (P := Tryz.prog) (codes := [(cd (Tryz.f92.body.getD .skip) [1, 1, 1, 1, 0, 1]), (cd (Tryz.f92.body.getD .skip) [1, 1, 1, 1, 1, 0])]) (N := (fun s w => s92_p3 K (s 0) (s 1) w)) (N' := (s92_p3_den K)) (X := (fun i => (fun _ _ => False))) (X' := (fun i => (fun _ _ => False))) (R := s92_R K) (s := s) (w := w) (p := s92_p4 K (s 0) (s 1) (s 2) (s 3) (s 52) w) (q := s92_p4_den K s w) (fun s w h => s92_p3_ok K s w @h) (fun i => tr_id) (by kernel_rfl) (by kernel_rfl) @h
def s92_p5_d (K : Value → World → Prop) (t0 t1 t2 t3 : Value) (w0 w : World) : Prop :=
  nck t0 (fun t43 _ =>
  fd 15 t43 (fun t44 _ =>
  ld1 t44 (fun t45 _ =>
  lnS t45 (fun t46 _ =>
  nck t0 (fun t48 _ =>
  fd 0 t48 (fun t49 _ =>
  fd 10 t49 (fun t50 _ =>
  ld1 t50 (fun t51 _ =>
  boI .geq t46 t51 (fun t52 _ =>
  s92_p4 K t0 t1 t2 t3 t52 w) w0) w0) w0) w0) w0) w0) w0) w0) w0
def s92_p5 (K : Value → World → Prop) (t0 t1 t2 t3 : Value) (w : World) : Prop := s92_p5_d K t0 t1 t2 t3 (drw w) (drw w)
def s92_p5_den (K : Value → World → Prop) : (Nat → Value) → World → Prop := denL Tryz.prog [(cd (Tryz.f92.body.getD .skip) [1, 1, 1, 1, 0, 0])] (s92_p4_den K) (fun i => (fun _ _ => False)) (s92_R K)
theorem s92_p5_ok (K : Value → World → Prop) (s : Nat → Value) (w : World) (h : s92_p5 K (s 0) (s 1) (s 2) (s 3) w) : Tr (s92_p5_den K s w) :=
  tr_draw (P := Tryz.prog) (ops := (ro (cd (Tryz.f92.body.getD .skip) [1, 1, 1, 1, 0, 0]))) (ms := [0, 1, 3, 7, 15, 0, 32, 96, 224, 480, 1023]) (cs := [0, 1, 2, 3, 4, 5, 6, 7, 8, 9, 10]) (N := (fun s w => s92_p4 K (s 0) (s 1) (s 2) (s 3) (s 52) w)) (N' := (s92_p4_den K)) (s := s) (w := w) (p := s92_p5 K (s 0) (s 1) (s 2) (s 3) w) (q := s92_p5_den K s w) (by kernel_rfl) (by kernel_rfl) (fun s w h => s92_p4_ok K s w @h) (by kernel_rfl) (by kernel_rfl) @h
def s92_p6 (K : Value → World → Prop) (t0 t1 t2 t3 t40 : Value) (w : World) : Prop :=
  ifb t40
  (cl Tryz.prog 83 #[(.int .i64 10)] (fun t41 w =>
  K t41 w) w)
  (s92_p5 K t0 t1 t2 t3 w)
def s92_p6_den (K : Value → World → Prop) : (Nat → Value) → World → Prop := denL Tryz.prog [(cd (Tryz.f92.body.getD .skip) [1, 1, 1, 0, 1])] (s92_p5_den K) (fun i => (fun _ _ => False)) (s92_R K)
theorem s92_p6_ok (K : Value → World → Prop) (s : Nat → Value) (w : World) (h : s92_p6 K (s 0) (s 1) (s 2) (s 3) (s 40) w) : Tr (s92_p6_den K s w) :=
  tr_simple (P := Tryz.prog) (codes := [(cd (Tryz.f92.body.getD .skip) [1, 1, 1, 0, 1])]) (N := (fun s w => s92_p5 K (s 0) (s 1) (s 2) (s 3) w)) (N' := (s92_p5_den K)) (X := (fun i => (fun _ _ => False))) (X' := (fun i => (fun _ _ => False))) (R := s92_R K) (s := s) (w := w) (p := s92_p6 K (s 0) (s 1) (s 2) (s 3) (s 40) w) (q := s92_p6_den K s w) (fun s w h => s92_p5_ok K s w @h) (fun i => tr_id) (by kernel_rfl) (by kernel_rfl) @h
def s92_p7_d (K : Value → World → Prop) (t0 t1 t2 t3 : Value) (w0 w : World) : Prop :=
  nck t0 (fun t28 _ =>
  fd 16 t28 (fun t29 _ =>
  ld1 t29 (fun t30 _ =>
  ixs 1 t30 t1 (fun t32 _ =>
  ld1 t32 (fun t33 _ =>
  lnS t33 (fun t34 _ =>
  nck t0 (fun t36 _ =>
  fd 0 t36 (fun t37 _ =>
  fd 11 t37 (fun t38 _ =>
  ld1 t38 (fun t39 _ =>
  boI .geq t34 t39 (fun t40 _ =>
  s92_p6 K t0 t1 t2 t3 t40 w) w0) w0) w0) w0) w0) w0) w0) w0) w0) w0) w0
def s92_p7 (K : Value → World → Prop) (t0 t1 t2 t3 : Value) (w : World) : Prop := s92_p7_d K t0 t1 t2 t3 (drw w) (drw w)
def s92_p7_den (K : Value → World → Prop) : (Nat → Value) → World → Prop := denL Tryz.prog [(cd (Tryz.f92.body.getD .skip) [1, 1, 1, 0, 0])] (s92_p6_den K) (fun i => (fun _ _ => False)) (s92_R K)
theorem s92_p7_ok (K : Value → World → Prop) (s : Nat → Value) (w : World) (h : s92_p7 K (s 0) (s 1) (s 2) (s 3) w) : Tr (s92_p7_den K s w) :=
  tr_draw (P := Tryz.prog) (ops := (ro (cd (Tryz.f92.body.getD .skip) [1, 1, 1, 0, 0]))) (ms := [0, 1, 3, 7, 0, 31, 63, 127, 0, 256, 768, 1792, 3840, 8191]) (cs := [0, 1, 2, 3, 4, 5, 6, 7, 8, 9, 10, 11, 12, 13]) (N := (fun s w => s92_p6 K (s 0) (s 1) (s 2) (s 3) (s 40) w)) (N' := (s92_p6_den K)) (s := s) (w := w) (p := s92_p7 K (s 0) (s 1) (s 2) (s 3) w) (q := s92_p7_den K s w) (by kernel_rfl) (by kernel_rfl) (fun s w h => s92_p6_ok K s w @h) (by kernel_rfl) (by kernel_rfl) @h
def s92_p8 (K : Value → World → Prop) (t0 t1 t2 t3 : Value) (w : World) : Prop :=
  nck t0 (fun t12 w =>
  fd 0 t12 (fun t13 w =>
  fd 0 t13 (fun t14 w =>
  ld1 t14 (fun t15 w =>
  lnS t15 (fun t16 w =>
  boI .geq t1 t16 (fun t17 w =>
  ifb t17
  (cl Tryz.prog 83 #[(.int .i64 13)] (fun t18 w =>
  K t18 w) w)
  (cl Tryz.prog 144 #[t0, t2, t3] (fun t22 w =>
  boI .neq t22 (.int .i64 0) (fun t24 w =>
  ifb t24
  (cl Tryz.prog 83 #[t22] (fun t26 w =>
  K t26 w) w)
  (s92_p7 K t0 t1 t2 t3 w)) w) w)) w) w) w) w) w) w
def s92_p8_den (K : Value → World → Prop) : (Nat → Value) → World → Prop := denL Tryz.prog [(cd (Tryz.f92.body.getD .skip) [0]), (cd (Tryz.f92.body.getD .skip) [1, 0, 0]), (cd (Tryz.f92.body.getD .skip) [1, 0, 1]), (cd (Tryz.f92.body.getD .skip) [1, 1, 0, 0]), (cd (Tryz.f92.body.getD .skip) [1, 1, 0, 1, 0]), (cd (Tryz.f92.body.getD .skip) [1, 1, 0, 1, 1])] (s92_p7_den K) (fun i => (fun _ _ => False)) (s92_R K)
theorem s92_p8_ok (K : Value → World → Prop) (s : Nat → Value) (w : World) (h : s92_p8 K (s 0) (s 1) (s 2) (s 3) w) : Tr (s92_p8_den K s w) :=
  tr_simple (P := Tryz.prog) (codes := [(cd (Tryz.f92.body.getD .skip) [0]), (cd (Tryz.f92.body.getD .skip) [1, 0, 0]), (cd (Tryz.f92.body.getD .skip) [1, 0, 1]), (cd (Tryz.f92.body.getD .skip) [1, 1, 0, 0]), (cd (Tryz.f92.body.getD .skip) [1, 1, 0, 1, 0]), (cd (Tryz.f92.body.getD .skip) [1, 1, 0, 1, 1])]) (N := (fun s w => s92_p7 K (s 0) (s 1) (s 2) (s 3) w)) (N' := (s92_p7_den K)) (X := (fun i => (fun _ _ => False))) (X' := (fun i => (fun _ _ => False))) (R := s92_R K) (s := s) (w := w) (p := s92_p8 K (s 0) (s 1) (s 2) (s 3) w) (q := s92_p8_den K s w) (fun s w h => s92_p7_ok K s w @h) (fun i => tr_id) (by kernel_rfl) (by kernel_rfl) @h
/-- the call, from the text -/
theorem c92 (t0 t1 t2 t3 : Value) {K : Value → World → Prop} {w : World} (h : s92_p8 K t0 t1 t2 t3 w) : cl Tryz.prog 92 #[t0, t1, t2, t3] K w :=
  calls_of_tr (c := (Tryz.f92.body.getD .skip)) (fn := Tryz.f92) (q := s92_p8_den K (st0 #[t0, t1, t2, t3]) w) Tryz.func92 (by kernel_rfl) (by kernel_rfl) (Nat.le_of_ble_eq_true (by kernel_rfl)) (by kernel_rfl) (by kernel_rfl) (s92_p8_ok K (st0 #[t0, t1, t2, t3]) w @h)

/-! ### function 93 : (*e2e.enginem.State).leave -/
def s93_R (K : Value → World → Prop) (s : Nat → Value) (w : World) : Prop := retv Tryz.prog s Tryz.f93.results.toList (fun vs => K (pack vs) w) w
def s93_p1 (K : Value → World → Prop) (w : World) : Prop :=
  bsq 3 [(.int .i64 0)] 1 [(some (0, 1), (.int .i64 4))] (fun t50 w =>
  cl Tryz.prog 99 #[(.int .u8 7), t50] (fun t51 w =>
  K t51 w) w) w
def s93_p1_den (K : Value → World → Prop) : (Nat → Value) → World → Prop := denL Tryz.prog [(cd (Tryz.f93.body.getD .skip) [1, 1, 1, 1, 1, 1, 0]), (cd (Tryz.f93.body.getD .skip) [1, 1, 1, 1, 1, 1, 1])] (fun _ _ => False) (fun i => (fun _ _ => False)) (s93_R K)
theorem s93_p1_ok (K : Value → World → Prop) (s : Nat → Value) (w : World) (h : s93_p1 K w) : Tr (s93_p1_den K s w) :=
  tr_simple (P := Tryz.prog) (codes := [(cd (Tryz.f93.body.getD .skip) [1, 1, 1, 1, 1, 1, 0]), (cd (Tryz.f93.body.getD .skip) [1, 1, 1, 1, 1, 1, 1])]) (N := (fun _ _ => False)) (N' := (fun _ _ => False)) (X := (fun i => (fun _ _ => False))) (X' := (fun i => (fun _ _ => False))) (R := s93_R K) (s := s) (w := w) (p := s93_p1 K w) (q := s93_p1_den K s w) tr_id (fun i => tr_id) (by kernel_rfl) (by kernel_rfl) @h
def s93_p2_d (K : Value → World → Prop) (t0 t1 t5 : Value) (w0 w : World) : Prop :=
  nck t0 (fun t28 _ =>
  fd 16 t28 (fun t29 _ =>
  ld1 t29 (fun t30 _ =>
  nck t5 (fun t32 _ =>
  fd 4 t32 (fun t33 _ =>
  ld1 t33 (fun t34 _ =>
  boI .sub t34 (.int .i64 1) (fun t35 _ =>
  nck t0 (fun t37 _ =>
  fd 16 t37 (fun t38 _ =>
  ld1 t38 (fun t39 _ =>
  nck t5 (fun t41 _ =>
  fd 4 t41 (fun t42 _ =>
  ld1 t42 (fun t43 _ =>
  boI .sub t43 (.int .i64 1) (fun t44 _ =>
  ixs 1 t39 t44 (fun t45 _ =>
  ld1 t45 (fun t46 _ =>
  ixs 1 t30 t35 (fun t49 _ =>
  cl Tryz.prog 150 #[t46, t1] (fun t48 w =>
  Below w0.heap.size w0 w ∧
  st1 t49 t48 (fun w =>
  s93_p1 K w) w) w) w0) w0) w0) w0) w0) w0) w0) w0) w0) w0) w0) w0) w0) w0) w0) w0) w0
def s93_p2 (K : Value → World → Prop) (t0 t1 t5 : Value) (w : World) : Prop := s93_p2_d K t0 t1 t5 (drw w) (drw w)
def s93_p2_den (K : Value → World → Prop) : (Nat → Value) → World → Prop := denL Tryz.prog [(cd (Tryz.f93.body.getD .skip) [1, 1, 1, 1, 1, 0])] (s93_p1_den K) (fun i => (fun _ _ => False)) (s93_R K)
theorem s93_p2_ok (K : Value → World → Prop) (s : Nat → Value) (w : World) (h : s93_p2 K (s 0) (s 1) (s 5) w) : Tr (s93_p2_den K s w) :=
  tr_draw (P := Tryz.prog) (ops := (ro (cd (Tryz.f93.body.getD .skip) [1, 1, 1, 1, 1, 0]))) (ms := [0, 1, 3, 7, 0, 16, 48, 112, 240, 0, 512, 1536, 3584, 0, 8192, 24576, 57344, 122880, 261632, 523776, 0, 2096640, 4194303, 8388607]) (cs := [0, 1, 2, 3, 4, 5, 6, 7, 8, 9, 10, 11, 12, 13, 14, 15, 16, 17, 18, 19, 20, 22]) (N := (fun s w => s93_p1 K w)) (N' := (s93_p1_den K)) (s := s) (w := w) (p := s93_p2 K (s 0) (s 1) (s 5) w) (q := s93_p2_den K s w) (by kernel_rfl) (by kernel_rfl) (fun s w h => s93_p1_ok K s w @h) (by kernel_rfl) (by kernel_rfl) @h
def s93_p3 (K : Value → World → Prop) (t0 t1 : Value) (w : World) : Prop :=
  cl Tryz.prog 148 #[t0, t1] (fun t8 w =>
  un .not t8 (fun t9 w =>
  ifb t9
  (cl Tryz.prog 83 #[(.int .i64 2)] (fun t10 w =>
  K t10 w) w)
  (nck t0 (fun t12 w =>
  fd 15 t12 (fun t13 w =>
  ld1 t13 (fun t14 w =>
  boI .sub t1 (.int .i64 1) (fun t16 w =>
  ixs 7 t14 t16 (fun t17 w =>
  nck t17 (fun t19 w =>
  fd 1 t19 (fun t20 w =>
  ld1 t20 (fun t21 w =>
  boI .neq t21 (.int .i64 7) (fun t22 w =>
  ifb t22
  (cl Tryz.prog 83 #[(.int .i64 8)] (fun t23 w =>
  K t23 w) w)
  (nck t17 (fun t25 w =>
  fd 1 t25 (fun t26 w =>
  st1 t26 (.int .i64 4) (fun w =>
  s93_p2 K t0 t1 t17 w) w) w) w)) w) w) w) w) w) w) w) w) w)) w) w
def s93_p3_den (K : Value → World → Prop) : (Nat → Value) → World → Prop := denL Tryz.prog [(cd (Tryz.f93.body.getD .skip) [0]), (cd (Tryz.f93.body.getD .skip) [1, 0, 0]), (cd (Tryz.f93.body.getD .skip) [1, 0, 1]), (cd (Tryz.f93.body.getD .skip) [1, 1, 0]), (cd (Tryz.f93.body.getD .skip) [1, 1, 1, 0, 0]), (cd (Tryz.f93.body.getD .skip) [1, 1, 1, 0, 1]), (cd (Tryz.f93.body.getD .skip) [1, 1, 1, 1, 0])] (s93_p2_den K) (fun i => (fun _ _ => False)) (s93_R K)
theorem s93_p3_ok (K : Value → World → Prop) (s : Nat → Value) (w : World) (h : s93_p3 K (s 0) (s 1) w) : Tr (s93_p3_den K s w) :=
  tr_simple (P := Tryz.prog) (codes := [(cd (Tryz.f93.body.getD .skip) [0]), (cd (Tryz.f93.body.getD .skip) [1, 0, 0]), (cd (Tryz.f93.body.getD .skip) [1, 0, 1]), (cd (Tryz.f93.body.getD .skip) [1, 1, 0]), (cd (Tryz.f93.body.getD .skip) [1, 1, 1, 0, 0]), (cd (Tryz.f93.body.getD .skip) [1, 1, 1, 0, 1]), (cd (Tryz.f93.body.getD .skip) [1, 1, 1, 1, 0])]) (N := (fun s w => s93_p2 K (s 0) (s 1) (s 5) w)) (N' := (s93_p2_den K)) (X := (fun i => (fun _ _ => False))) (X' := (fun i => (fun _ _ => False))) (R := s93_R K) (s := s) (w := w) (p := s93_p3 K (s 0) (s 1) w) (q := s93_p3_den K s w) (fun s w h => s93_p2_ok K s w @h) (fun i => tr_id) (by kernel_rfl) (by kernel_rfl) @h
/-- the call, from the text -/
theorem c93 (t0 t1 : Value) {K : Value → World → Prop} {w : World} (h : s93_p3 K t0 t1 w) : cl Tryz.prog 93 #[t0, t1] K w :=
  calls_of_tr (c := (Tryz.f93.body.getD .skip)) (fn := Tryz.f93) (q := s93_p3_den K (st0 #[t0, t1]) w) Tryz.func93 (by kernel_rfl) (by kernel_rfl) (Nat.le_of_ble_eq_true (by kernel_rfl)) (by kernel_rfl) (by kernel_rfl) (s93_p3_ok K (st0 #[t0, t1]) w @h)

/-! ### function 94 : (*e2e.enginem.State).tick -/
def s94_R (K : Value → World → Prop) (s : Nat → Value) (w : World) : Prop := retv Tryz.prog s Tryz.f94.results.toList (fun vs => K (pack vs) w) w
def s94_p1 (K : Value → World → Prop) (t0 t3 t7 t8 t9 : Value) (w : World) : Prop :=
  nck t0 (fun t165 w =>
  fd 14 t165 (fun t166 w =>
  ld1 t166 (fun t167 w =>
  lnS t3 (fun t169 w =>
  boI .quo t169 (.int .i64 2) (fun t170 w =>
  bsq 3 [(.int .i64 0)] 2 [(some (0, 1), t167), (some (1, 1), t170)] (fun t171 w =>
  apq 3 [(.int .i64 0)] 8 t171 t3 (fun t173 w =>
  bsq 3 [(.int .i64 0)] 3 [(some (0, 1), t7), (some (1, 1), t8), (some (2, 1), t9)] (fun t178 w =>
  apq 3 [(.int .i64 0)] 8 t173 t178 (fun t179 w =>
  cl Tryz.prog 99 #[(.int .u8 9), t179] (fun t180 w =>
  K t180 w) w) w) w) w) w) w) w) w) w) w
def s94_p1_den (K : Value → World → Prop) : (Nat → Value) → World → Prop := denL Tryz.prog [(cd (Tryz.f94.body.getD .skip) [1, 1, 1, 1, 1, 1, 1, 0]), (cd (Tryz.f94.body.getD .skip) [1, 1, 1, 1, 1, 1, 1, 1, 0]), (cd (Tryz.f94.body.getD .skip) [1, 1, 1, 1, 1, 1, 1, 1, 1])] (fun _ _ => False) (fun i => (fun _ _ => False)) (s94_R K)
theorem s94_p1_ok (K : Value → World → Prop) (s : Nat → Value) (w : World) (h : s94_p1 K (s 0) (s 3) (s 7) (s 8) (s 9) w) : Tr (s94_p1_den K s w) :=
  tr_simple (P := Tryz.prog) (codes := [(cd (Tryz.f94.body.getD .skip) [1, 1, 1, 1, 1, 1, 1, 0]), (cd (Tryz.f94.body.getD .skip) [1, 1, 1, 1, 1, 1, 1, 1, 0]), (cd (Tryz.f94.body.getD .skip) [1, 1, 1, 1, 1, 1, 1, 1, 1])]) (N := (fun _ _ => False)) (N' := (fun _ _ => False)) (X := (fun i => (fun _ _ => False))) (X' := (fun i => (fun _ _ => False))) (R := s94_R K) (s := s) (w := w) (p := s94_p1 K (s 0) (s 3) (s 7) (s 8) (s 9) w) (q := s94_p1_den K s w) tr_id (fun i => tr_id) (by kernel_rfl) (by kernel_rfl) @h
def s94_p2 (K : Value → World → Prop) (B1 : List Value → World → Prop) (t0 t3 t7 t8 t9 t72 t73 : Value) (w : World) : Prop :=
  boI .add t73 (.int .i64 1) (fun t163 w =>
  B1 [t0, t3, t7, t8, t9, t72, t163] w) w
def s94_p2_den (K : Value → World → Prop) (M1 : (Nat → Value) → World → Prop) : (Nat → Value) → World → Prop := denL Tryz.prog [(cd (Tryz.f94.body.getD .skip) [1, 1, 1, 1, 1, 1, 0, 1, 0, 0, 1, 1, 1])] M1 (fun i => (bif Nat.beq i 4 then (s94_p1_den K) else (fun _ _ => False))) (s94_R K)
theorem s94_p2_ok (K : Value → World → Prop) (B1 : List Value → World → Prop) (s : Nat → Value) (w : World) (h : s94_p2 K B1 (s 0) (s 3) (s 7) (s 8) (s 9) (s 72) (s 73) w) : Tr (s94_p2_den K (fun s w => B1 [s 0, s 3, s 7, s 8, s 9, s 72, s 73] w) s w) :=
  tr_simple (P := Tryz.prog) (codes := [(cd (Tryz.f94.body.getD .skip) [1, 1, 1, 1, 1, 1, 0, 1, 0, 0, 1, 1, 1])]) (N := (fun s w => B1 [s 0, s 3, s 7, s 8, s 9, s 72, s 73] w)) (N' := (fun s w => B1 [s 0, s 3, s 7, s 8, s 9, s 72, s 73] w)) (X := (fun i => (bif Nat.beq i 4 then (fun s w => s94_p1 K (s 0) (s 3) (s 7) (s 8) (s 9) w) else (fun _ _ => False)))) (X' := (fun i => (bif Nat.beq i 4 then (s94_p1_den K) else (fun _ _ => False)))) (R := s94_R K) (s := s) (w := w) (p := s94_p2 K B1 (s 0) (s 3) (s 7) (s 8) (s 9) (s 72) (s 73) w) (q := s94_p2_den K (fun s w => B1 [s 0, s 3, s 7, s 8, s 9, s 72, s 73] w) s w) tr_id (fun i => (tr_bif (fun s w h => s94_p1_ok K s w @h) tr_id)) (by kernel_rfl) (by kernel_rfl) @h
def s94_p3 (K : Value → World → Prop) (B1 : List Value → World → Prop) (t0 t3 t7 t8 t9 t11 t72 t73 t157 : Value) (w : World) : Prop :=
  ifb t157
  (nck t11 (fun t159 w =>
  fd 1 t159 (fun t160 w =>
  st1 t160 (.int .i64 9) (fun w =>
  boI .add t9 (.int .i64 1) (fun t162 w =>
  s94_p2 K B1 t0 t3 t7 t8 t162 t72 t73 w) w) w) w) w)
  (s94_p2 K B1 t0 t3 t7 t8 t9 t72 t73 w)
def s94_p3_den (K : Value → World → Prop) (M1 : (Nat → Value) → World → Prop) : (Nat → Value) → World → Prop := denL Tryz.prog [(cd (Tryz.f94.body.getD .skip) [1, 1, 1, 1, 1, 1, 0, 1, 0, 0, 1, 1, 0, 0, 1, 1, 1, 1, 1])] (s94_p2_den K M1) (fun i => (bif Nat.beq i 5 then (s94_p2_den K M1) else (bif Nat.beq i 4 then (s94_p1_den K) else (fun _ _ => False)))) (s94_R K)
theorem s94_p3_ok (K : Value → World → Prop) (B1 : List Value → World → Prop) (s : Nat → Value) (w : World) (h : s94_p3 K B1 (s 0) (s 3) (s 7) (s 8) (s 9) (s 11) (s 72) (s 73) (s 157) w) : Tr (s94_p3_den K (fun s w => B1 [s 0, s 3, s 7, s 8, s 9, s 72, s 73] w) s w) :=
  tr_simple (P := Tryz.prog) (codes := [(cd (Tryz.f94.body.getD .skip) [1, 1, 1, 1, 1, 1, 0, 1, 0, 0, 1, 1, 0, 0, 1, 1, 1, 1, 1])]) (N := (fun s w => s94_p2 K B1 (s 0) (s 3) (s 7) (s 8) (s 9) (s 72) (s 73) w)) (N' := (s94_p2_den K (fun s w => B1 [s 0, s 3, s 7, s 8, s 9, s 72, s 73] w))) (X := (fun i => (bif Nat.beq i 5 then (fun s w => s94_p2 K B1 (s 0) (s 3) (s 7) (s 8) (s 9) (s 72) (s 73) w) else (bif Nat.beq i 4 then (fun s w => s94_p1 K (s 0) (s 3) (s 7) (s 8) (s 9) w) else (fun _ _ => False))))) (X' := (fun i => (bif Nat.beq i 5 then (s94_p2_den K (fun s w => B1 [s 0, s 3, s 7, s 8, s 9, s 72, s 73] w)) else (bif Nat.beq i 4 then (s94_p1_den K) else (fun _ _ => False))))) (R := s94_R K) (s := s) (w := w) (p := s94_p3 K B1 (s 0) (s 3) (s 7) (s 8) (s 9) (s 11) (s 72) (s 73) (s 157) w) (q := s94_p3_den K (fun s w => B1 [s 0, s 3, s 7, s 8, s 9, s 72, s 73] w) s w) (fun s w h => s94_p2_ok K B1 s w @h) (fun i => (tr_bif (fun s w h => s94_p2_ok K B1 s w @h) (tr_bif (fun s w h => s94_p1_ok K s w @h) tr_id))) (by kernel_rfl) (by kernel_rfl) @h
def s94_p4_d (K : Value → World → Prop) (B1 : List Value → World → Prop) (t0 t3 t7 t8 t9 t11 t72 t73 : Value) (w0 w : World) : Prop :=
  nck t11 (fun t134 _ =>
  fd 1 t134 (fun t135 _ =>
  ld1 t135 (fun t136 _ =>
  boI .eql t136 (.int .i64 8) (fun t137 _ =>
  gd t137 true (fun K w => K t0 w) (fun t139 _ =>
  gd t137 true (nck t139) (fun t140 _ =>
  gd t137 true (fd 14 t140) (fun t141 _ =>
  gd t137 true (ld1 t141) (fun t142 _ =>
  gd t137 true (fun K w => K t11 w) (fun t143 _ =>
  gd t137 true (nck t143) (fun t144 _ =>
  gd t137 true (fd 6 t144) (fun t145 _ =>
  gd t137 true (ld1 t145) (fun t146 _ =>
  gd t137 true (ixs 2 t146 (.int .i64 0)) (fun t147 _ =>
  gd t137 true (fd 1 t147) (fun t148 _ =>
  gd t137 true (ld1 t148) (fun t149 _ =>
  gd t137 true (fun K w => K t0 w) (fun t150 _ =>
  gd t137 true (nck t150) (fun t151 _ =>
  gd t137 true (fd 0 t151) (fun t152 _ =>
  gd t137 true (fd 8 t152) (fun t153 _ =>
  gd t137 true (ld1 t153) (fun t154 _ =>
  gd t137 true (boI .add t149 t154) (fun t155 _ =>
  gd t137 true (boI .geq t142 t155) (fun t156 _ =>
  pk t137 t156 (.bool false) (fun t157 _ =>
  s94_p3 K B1 t0 t3 t7 t8 t9 t11 t72 t73 t157 w) w0) w0) w0) w0) w0) w0) w0) w0) w0) w0) w0) w0) w0) w0) w0) w0) w0) w0) w0) w0) w0) w0) w0
def s94_p4 (K : Value → World → Prop) (B1 : List Value → World → Prop) (t0 t3 t7 t8 t9 t11 t72 t73 : Value) (w : World) : Prop := s94_p4_d K B1 t0 t3 t7 t8 t9 t11 t72 t73 (drw w) (drw w)
def s94_p4_den (K : Value → World → Prop) (M1 : (Nat → Value) → World → Prop) : (Nat → Value) → World → Prop := denL Tryz.prog [(cd (Tryz.f94.body.getD .skip) [1, 1, 1, 1, 1, 1, 0, 1, 0, 0, 1, 1, 0, 0, 1, 1, 1, 1, 0])] (s94_p3_den K M1) (fun i => (bif Nat.beq i 5 then (s94_p2_den K M1) else (bif Nat.beq i 4 then (s94_p1_den K) else (fun _ _ => False)))) (s94_R K)
theorem s94_p4_ok (K : Value → World → Prop) (B1 : List Value → World → Prop) (s : Nat → Value) (w : World) (h : s94_p4 K B1 (s 0) (s 3) (s 7) (s 8) (s 9) (s 11) (s 72) (s 73) w) : Tr (s94_p4_den K (fun s w => B1 [s 0, s 3, s 7, s 8, s 9, s 72, s 73] w) s w) :=
  tr_draw (P := Tryz.prog) (ops := (ro (cd (Tryz.f94.body.getD .skip) [1, 1, 1, 1, 1, 1, 0, 1, 0, 0, 1, 1, 0, 0, 1, 1, 1, 1, 0]))) (ms := [0, 1, 3, 7, 15, 31, 63, 127, 255, 511, 63, 1087, 3135, 7231, 15423, 31807, 64575, 63, 131135, 393279, 917567, 1966143, 4193343, 8388607, 16777215]) (cs := [0, 1, 2, 3, 4, 5, 6, 7, 8, 9, 10, 11, 12, 13, 14, 15, 16, 17, 18, 19, 20, 21, 22, 23, 24]) (N := (fun s w => s94_p3 K B1 (s 0) (s 3) (s 7) (s 8) (s 9) (s 11) (s 72) (s 73) (s 157) w)) (N' := (s94_p3_den K (fun s w => B1 [s 0, s 3, s 7, s 8, s 9, s 72, s 73] w))) (s := s) (w := w) (p := s94_p4 K B1 (s 0) (s 3) (s 7) (s 8) (s 9) (s 11) (s 72) (s 73) w) (q := s94_p4_den K (fun s w => B1 [s 0, s 3, s 7, s 8, s 9, s 72, s 73] w) s w) (by kernel_rfl) (by kernel_rfl) (fun s w h => s94_p3_ok K B1 s w @h) (by kernel_rfl) (by kernel_rfl) @h
def s94_p5 (K : Value → World → Prop) (B1 : List Value → World → Prop) (t0 t3 t7 t8 t9 t11 t72 t73 t127 : Value) (w : World) : Prop :=
  ifb t127
  (nck t11 (fun t129 w =>
  fd 1 t129 (fun t130 w =>
  st1 t130 (.int .i64 5) (fun w =>
  boI .add t8 (.int .i64 1) (fun t132 w =>
  s94_p4 K B1 t0 t3 t7 t132 t9 t11 t72 t73 w) w) w) w) w)
  (s94_p4 K B1 t0 t3 t7 t8 t9 t11 t72 t73 w)
def s94_p5_den (K : Value → World → Prop) (M1 : (Nat → Value) → World → Prop) : (Nat → Value) → World → Prop := denL Tryz.prog [(cd (Tryz.f94.body.getD .skip) [1, 1, 1, 1, 1, 1, 0, 1, 0, 0, 1, 1, 0, 0, 1, 1, 1, 0, 1])] (s94_p4_den K M1) (fun i => (bif Nat.beq i 5 then (s94_p2_den K M1) else (bif Nat.beq i 4 then (s94_p1_den K) else (fun _ _ => False)))) (s94_R K)
theorem s94_p5_ok (K : Value → World → Prop) (B1 : List Value → World → Prop) (s : Nat → Value) (w : World) (h : s94_p5 K B1 (s 0) (s 3) (s 7) (s 8) (s 9) (s 11) (s 72) (s 73) (s 127) w) : Tr (s94_p5_den K (fun s w => B1 [s 0, s 3, s 7, s 8, s 9, s 72, s 73] w) s w) :=
  tr_simple (P := Tryz.prog) (codes := [(cd (Tryz.f94.body.getD .skip) [1, 1, 1, 1, 1, 1, 0, 1, 0, 0, 1, 1, 0, 0, 1, 1, 1, 0, 1])]) (N := (fun s w => s94_p4 K B1 (s 0) (s 3) (s 7) (s 8) (s 9) (s 11) (s 72) (s 73) w)) (N' := (s94_p4_den K (fun s w => B1 [s 0, s 3, s 7, s 8, s 9, s 72, s 73] w))) (X := (fun i => (bif Nat.beq i 5 then (fun s w => s94_p2 K B1 (s 0) (s 3) (s 7) (s 8) (s 9) (s 72) (s 73) w) else (bif Nat.beq i 4 then (fun s w => s94_p1 K (s 0) (s 3) (s 7) (s 8) (s 9) w) else (fun _ _ => False))))) (X' := (fun i => (bif Nat.beq i 5 then (s94_p2_den K (fun s w => B1 [s 0, s 3, s 7, s 8, s 9, s 72, s 73] w)) else (bif Nat.beq i 4 then (s94_p1_den K) else (fun _ _ => False))))) (R := s94_R K) (s := s) (w := w) (p := s94_p5 K B1 (s 0) (s 3) (s 7) (s 8) (s 9) (s 11) (s 72) (s 73) (s 127) w) (q := s94_p5_den K (fun s w => B1 [s 0, s 3, s 7, s 8, s 9, s 72, s 73] w) s w) (fun s w h => s94_p4_ok K B1 s w @h) (fun i => (tr_bif (fun s w h => s94_p2_ok K B1 s w @h) (tr_bif (fun s w h => s94_p1_ok K s w @h) tr_id))) (by kernel_rfl) (by kernel_rfl) @h
def s94_p6_d (K : Value → World → Prop) (B1 : List Value → World → Prop) (t0 t3 t7 t8 t9 t11 t72 t73 : Value) (w0 w : World) : Prop :=
  nck t11 (fun t104 _ =>
  fd 1 t104 (fun t105 _ =>
  ld1 t105 (fun t106 _ =>
  boI .eql t106 (.int .i64 2) (fun t107 _ =>
  gd t107 true (fun K w => K t0 w) (fun t109 _ =>
  gd t107 true (nck t109) (fun t110 _ =>
  gd t107 true (fd 14 t110) (fun t111 _ =>
  gd t107 true (ld1 t111) (fun t112 _ =>
  gd t107 true (fun K w => K t11 w) (fun t113 _ =>
  gd t107 true (nck t113) (fun t114 _ =>
  gd t107 true (fd 6 t114) (fun t115 _ =>
  gd t107 true (ld1 t115) (fun t116 _ =>
  gd t107 true (ixs 2 t116 (.int .i64 0)) (fun t117 _ =>
  gd t107 true (fd 1 t117) (fun t118 _ =>
  gd t107 true (ld1 t118) (fun t119 _ =>
  gd t107 true (fun K w => K t0 w) (fun t120 _ =>
  gd t107 true (nck t120) (fun t121 _ =>
  gd t107 true (fd 0 t121) (fun t122 _ =>
  gd t107 true (fd 7 t122) (fun t123 _ =>
  gd t107 true (ld1 t123) (fun t124 _ =>
  gd t107 true (boI .add t119 t124) (fun t125 _ =>
  gd t107 true (boI .geq t112 t125) (fun t126 _ =>
  pk t107 t126 (.bool false) (fun t127 _ =>
  s94_p5 K B1 t0 t3 t7 t8 t9 t11 t72 t73 t127 w) w0) w0) w0) w0) w0) w0) w0) w0) w0) w0) w0) w0) w0) w0) w0) w0) w0) w0) w0) w0) w0) w0) w0
def s94_p6 (K : Value → World → Prop) (B1 : List Value → World → Prop) (t0 t3 t7 t8 t9 t11 t72 t73 : Value) (w : World) : Prop := s94_p6_d K B1 t0 t3 t7 t8 t9 t11 t72 t73 (drw w) (drw w)
def s94_p6_den (K : Value → World → Prop) (M1 : (Nat → Value) → World → Prop) : (Nat → Value) → World → Prop := denL Tryz.prog [(cd (Tryz.f94.body.getD .skip) [1, 1, 1, 1, 1, 1, 0, 1, 0, 0, 1, 1, 0, 0, 1, 1, 1, 0, 0])] (s94_p5_den K M1) (fun i => (bif Nat.beq i 5 then (s94_p2_den K M1) else (bif Nat.beq i 4 then (s94_p1_den K) else (fun _ _ => False)))) (s94_R K)
theorem s94_p6_ok (K : Value → World → Prop) (B1 : List Value → World → Prop) (s : Nat → Value) (w : World) (h : s94_p6 K B1 (s 0) (s 3) (s 7) (s 8) (s 9) (s 11) (s 72) (s 73) w) : Tr (s94_p6_den K (fun s w => B1 [s 0, s 3, s 7, s 8, s 9, s 72, s 73] w) s w) :=
  tr_draw (P := Tryz.prog) (ops := (ro (cd (Tryz.f94.body.getD .skip) [1, 1, 1, 1, 1, 1, 0, 1, 0, 0, 1, 1, 0, 0, 1, 1, 1, 0, 0]))) (ms := [0, 1, 3, 7, 15, 31, 63, 127, 255, 511, 63, 1087, 3135, 7231, 15423, 31807, 64575, 63, 131135, 393279, 917567, 1966143, 4193343, 8388607, 16777215]) (cs := [0, 1, 2, 3, 4, 5, 6, 7, 8, 9, 10, 11, 12, 13, 14, 15, 16, 17, 18, 19, 20, 21, 22, 23, 24]) (N := (fun s w => s94_p5 K B1 (s 0) (s 3) (s 7) (s 8) (s 9) (s 11) (s 72) (s 73) (s 127) w)) (N' := (s94_p5_den K (fun s w => B1 [s 0, s 3, s 7, s 8, s 9, s 72, s 73] w))) (s := s) (w := w) (p := s94_p6 K B1 (s 0) (s 3) (s 7) (s 8) (s 9) (s 11) (s 72) (s 73) w) (q := s94_p6_den K (fun s w => B1 [s 0, s 3, s 7, s 8, s 9, s 72, s 73] w) s w) (by kernel_rfl) (by kernel_rfl) (fun s w h => s94_p5_ok K B1 s w @h) (by kernel_rfl) (by kernel_rfl) @h
def s94_p7 (K : Value → World → Prop) (B1 : List Value → World → Prop) (t0 t3 t7 t8 t9 t11 t72 t73 t97 : Value) (w : World) : Prop :=
  ifb t97
  (nck t11 (fun t99 w =>
  fd 1 t99 (fun t100 w =>
  st1 t100 (.int .i64 6) (fun w =>
  boI .add t7 (.int .i64 1) (fun t102 w =>
  s94_p6 K B1 t0 t3 t102 t8 t9 t11 t72 t73 w) w) w) w) w)
  (s94_p6 K B1 t0 t3 t7 t8 t9 t11 t72 t73 w)
def s94_p7_den (K : Value → World → Prop) (M1 : (Nat → Value) → World → Prop) : (Nat → Value) → World → Prop := denL Tryz.prog [(cd (Tryz.f94.body.getD .skip) [1, 1, 1, 1, 1, 1, 0, 1, 0, 0, 1, 1, 0, 0, 1, 1, 0, 1])] (s94_p6_den K M1) (fun i => (bif Nat.beq i 5 then (s94_p2_den K M1) else (bif Nat.beq i 4 then (s94_p1_den K) else (fun _ _ => False)))) (s94_R K)
theorem s94_p7_ok (K : Value → World → Prop) (B1 : List Value → World → Prop) (s : Nat → Value) (w : World) (h : s94_p7 K B1 (s 0) (s 3) (s 7) (s 8) (s 9) (s 11) (s 72) (s 73) (s 97) w) : Tr (s94_p7_den K (fun s w => B1 [s 0, s 3, s 7, s 8, s 9, s 72, s 73] w) s w) :=
  tr_simple (P := Tryz.prog) (codes := [(cd (Tryz.f94.body.getD .skip) [1, 1, 1, 1, 1, 1, 0, 1, 0, 0, 1, 1, 0, 0, 1, 1, 0, 1])]) (N := (fun s w => s94_p6 K B1 (s 0) (s 3) (s 7) (s 8) (s 9) (s 11) (s 72) (s 73) w)) (N' := (s94_p6_den K (fun s w => B1 [s 0, s 3, s 7, s 8, s 9, s 72, s 73] w))) (X := (fun i => (bif Nat.beq i 5 then (fun s w => s94_p2 K B1 (s 0) (s 3) (s 7) (s 8) (s 9) (s 72) (s 73) w) else (bif Nat.beq i 4 then (fun s w => s94_p1 K (s 0) (s 3) (s 7) (s 8) (s 9) w) else (fun _ _ => False))))) (X' := (fun i => (bif Nat.beq i 5 then (s94_p2_den K (fun s w => B1 [s 0, s 3, s 7, s 8, s 9, s 72, s 73] w)) else (bif Nat.beq i 4 then (s94_p1_den K) else (fun _ _ => False))))) (R := s94_R K) (s := s) (w := w) (p := s94_p7 K B1 (s 0) (s 3) (s 7) (s 8) (s 9) (s 11) (s 72) (s 73) (s 97) w) (q := s94_p7_den K (fun s w => B1 [s 0, s 3, s 7, s 8, s 9, s 72, s 73] w) s w) (fun s w h => s94_p6_ok K B1 s w @h) (fun i => (tr_bif (fun s w h => s94_p2_ok K B1 s w @h) (tr_bif (fun s w h => s94_p1_ok K s w @h) tr_id))) (by kernel_rfl) (by kernel_rfl) @h
def s94_p8_d (K : Value → World → Prop) (B1 : List Value → World → Prop) (t0 t3 t7 t8 t9 t11 t72 t73 : Value) (w0 w : World) : Prop :=
  nck t11 (fun t83 _ =>
  fd 1 t83 (fun t84 _ =>
  ld1 t84 (fun t85 _ =>
  boI .eql t85 (.int .i64 1) (fun t86 _ =>
  gd t86 true (fun K w => K t0 w) (fun t88 _ =>
  gd t86 true (nck t88) (fun t89 _ =>
  gd t86 true (fd 14 t89) (fun t90 _ =>
  gd t86 true (ld1 t90) (fun t91 _ =>
  gd t86 true (fun K w => K t11 w) (fun t92 _ =>
  gd t86 true (nck t92) (fun t93 _ =>
  gd t86 true (fd 5 t93) (fun t94 _ =>
  gd t86 true (ld1 t94) (fun t95 _ =>
  gd t86 true (boI .geq t91 t95) (fun t96 _ =>
  pk t86 t96 (.bool false) (fun t97 _ =>
  s94_p7 K B1 t0 t3 t7 t8 t9 t11 t72 t73 t97 w) w0) w0) w0) w0) w0) w0) w0) w0) w0) w0) w0) w0) w0) w0
def s94_p8 (K : Value → World → Prop) (B1 : List Value → World → Prop) (t0 t3 t7 t8 t9 t11 t72 t73 : Value) (w : World) : Prop := s94_p8_d K B1 t0 t3 t7 t8 t9 t11 t72 t73 (drw w) (drw w)
def s94_p8_den (K : Value → World → Prop) (M1 : (Nat → Value) → World → Prop) : (Nat → Value) → World → Prop := denL Tryz.prog [(cd (Tryz.f94.body.getD .skip) [1, 1, 1, 1, 1, 1, 0, 1, 0, 0, 1, 1, 0, 0, 1, 1, 0, 0])] (s94_p7_den K M1) (fun i => (bif Nat.beq i 5 then (s94_p2_den K M1) else (bif Nat.beq i 4 then (s94_p1_den K) else (fun _ _ => False)))) (s94_R K)
theorem s94_p8_ok (K : Value → World → Prop) (B1 : List Value → World → Prop) (s : Nat → Value) (w : World) (h : s94_p8 K B1 (s 0) (s 3) (s 7) (s 8) (s 9) (s 11) (s 72) (s 73) w) : Tr (s94_p8_den K (fun s w => B1 [s 0, s 3, s 7, s 8, s 9, s 72, s 73] w) s w) :=
  tr_draw (P := Tryz.prog) (ops := (ro (cd (Tryz.f94.body.getD .skip) [1, 1, 1, 1, 1, 1, 0, 1, 0, 0, 1, 1, 0, 0, 1, 1, 0, 0]))) (ms := [0, 1, 3, 7, 15, 31, 63, 127, 255, 511, 63, 1087, 3135, 7231, 16383, 32767]) (cs := [0, 1, 2, 3, 4, 5, 6, 7, 8, 9, 10, 11, 12, 13, 14, 15]) (N := (fun s w => s94_p7 K B1 (s 0) (s 3) (s 7) (s 8) (s 9) (s 11) (s 72) (s 73) (s 97) w)) (N' := (s94_p7_den K (fun s w => B1 [s 0, s 3, s 7, s 8, s 9, s 72, s 73] w))) (s := s) (w := w) (p := s94_p8 K B1 (s 0) (s 3) (s 7) (s 8) (s 9) (s 11) (s 72) (s 73) w) (q := s94_p8_den K (fun s w => B1 [s 0, s 3, s 7, s 8, s 9, s 72, s 73] w) s w) (by kernel_rfl) (by kernel_rfl) (fun s w h => s94_p7_ok K B1 s w @h) (by kernel_rfl) (by kernel_rfl) @h
def s94_p9 (K : Value → World → Prop) (B1 : List Value → World → Prop) (t0 t3 t7 t8 t9 t72 t73 : Value) (w : World) : Prop :=
  nck t0 (fun t77 w =>
  fd 15 t77 (fun t78 w =>
  ld1 t78 (fun t79 w =>
  ixs 7 t79 t73 (fun t81 w =>
  s94_p8 K B1 t0 t3 t7 t8 t9 t81 t72 t73 w) w) w) w) w
def s94_p9_den (K : Value → World → Prop) (M1 : (Nat → Value) → World → Prop) : (Nat → Value) → World → Prop := denL Tryz.prog [(cd (Tryz.f94.body.getD .skip) [1, 1, 1, 1, 1, 1, 0, 1, 0, 0, 1, 1, 0, 0, 0]), (cd (Tryz.f94.body.getD .skip) [1, 1, 1, 1, 1, 1, 0, 1, 0, 0, 1, 1, 0, 0, 1, 0])] (s94_p8_den K M1) (fun i => (bif Nat.beq i 5 then (s94_p2_den K M1) else (bif Nat.beq i 4 then (s94_p1_den K) else (fun _ _ => False)))) (s94_R K)
theorem s94_p9_ok (K : Value → World → Prop) (B1 : List Value → World → Prop) (s : Nat → Value) (w : World) (h : s94_p9 K B1 (s 0) (s 3) (s 7) (s 8) (s 9) (s 72) (s 73) w) : Tr (s94_p9_den K (fun s w => B1 [s 0, s 3, s 7, s 8, s 9, s 72, s 73] w) s w) :=
  tr_simple (P := Tryz.prog) (codes := [(cd (Tryz.f94.body.getD .skip) [1, 1, 1, 1, 1, 1, 0, 1, 0, 0, 1, 1, 0, 0, 0]), (cd (Tryz.f94.body.getD .skip) [1, 1, 1, 1, 1, 1, 0, 1, 0, 0, 1, 1, 0, 0, 1, 0])]) (N := (fun s w => s94_p8 K B1 (s 0) (s 3) (s 7) (s 8) (s 9) (s 11) (s 72) (s 73) w)) (N' := (s94_p8_den K (fun s w => B1 [s 0, s 3, s 7, s 8, s 9, s 72, s 73] w))) (X := (fun i => (bif Nat.beq i 5 then (fun s w => s94_p2 K B1 (s 0) (s 3) (s 7) (s 8) (s 9) (s 72) (s 73) w) else (bif Nat.beq i 4 then (fun s w => s94_p1 K (s 0) (s 3) (s 7) (s 8) (s 9) w) else (fun _ _ => False))))) (X' := (fun i => (bif Nat.beq i 5 then (s94_p2_den K (fun s w => B1 [s 0, s 3, s 7, s 8, s 9, s 72, s 73] w)) else (bif Nat.beq i 4 then (s94_p1_den K) else (fun _ _ => False))))) (R := s94_R K) (s := s) (w := w) (p := s94_p9 K B1 (s 0) (s 3) (s 7) (s 8) (s 9) (s 72) (s 73) w) (q := s94_p9_den K (fun s w => B1 [s 0, s 3, s 7, s 8, s 9, s 72, s 73] w) s w) (fun s w h => s94_p8_ok K B1 s w @h) (fun i => (tr_bif (fun s w h => s94_p2_ok K B1 s w @h) (tr_bif (fun s w h => s94_p1_ok K s w @h) tr_id))) (by kernel_rfl) (by kernel_rfl) @h
def s94_p10 (K : Value → World → Prop) (B1 : List Value → World → Prop) (t0 t3 t7 t8 t9 t72 t73 : Value) (w : World) : Prop :=
  boI .lss t73 t72 (fun t74 w =>
  ifb t74
  (s94_p9 K B1 t0 t3 t7 t8 t9 t72 t73 w)
  (s94_p1 K t0 t3 t7 t8 t9 w)) w
def s94_p10_den (K : Value → World → Prop) (M1 : (Nat → Value) → World → Prop) : (Nat → Value) → World → Prop := denL Tryz.prog [(cd (Tryz.f94.body.getD .skip) [1, 1, 1, 1, 1, 1, 0, 1, 0, 0, 0]), (cd (Tryz.f94.body.getD .skip) [1, 1, 1, 1, 1, 1, 0, 1, 0, 0, 1, 0])] (s94_p9_den K M1) (fun i => (bif Nat.beq i 4 then (s94_p1_den K) else (fun _ _ => False))) (s94_R K)
theorem s94_p10_ok (K : Value → World → Prop) (B1 : List Value → World → Prop) (s : Nat → Value) (w : World) (h : s94_p10 K B1 (s 0) (s 3) (s 7) (s 8) (s 9) (s 72) (s 73) w) : Tr (s94_p10_den K (fun s w => B1 [s 0, s 3, s 7, s 8, s 9, s 72, s 73] w) s w) :=
  tr_simple (P := Tryz.prog) (codes := [(cd (Tryz.f94.body.getD .skip) [1, 1, 1, 1, 1, 1, 0, 1, 0, 0, 0]), (cd (Tryz.f94.body.getD .skip) [1, 1, 1, 1, 1, 1, 0, 1, 0, 0, 1, 0])]) (N := (fun s w => s94_p9 K B1 (s 0) (s 3) (s 7) (s 8) (s 9) (s 72) (s 73) w)) (N' := (s94_p9_den K (fun s w => B1 [s 0, s 3, s 7, s 8, s 9, s 72, s 73] w))) (X := (fun i => (bif Nat.beq i 4 then (fun s w => s94_p1 K (s 0) (s 3) (s 7) (s 8) (s 9) w) else (fun _ _ => False)))) (X' := (fun i => (bif Nat.beq i 4 then (s94_p1_den K) else (fun _ _ => False)))) (R := s94_R K) (s := s) (w := w) (p := s94_p10 K B1 (s 0) (s 3) (s 7) (s 8) (s 9) (s 72) (s 73) w) (q := s94_p10_den K (fun s w => B1 [s 0, s 3, s 7, s 8, s 9, s 72, s 73] w) s w) (fun s w h => s94_p9_ok K B1 s w @h) (fun i => (tr_bif (fun s w h => s94_p1_ok K s w @h) tr_id)) (by kernel_rfl) (by kernel_rfl) @h
def s94_p11_F (K : Value → World → Prop) (B1 : List Value → World → Prop) (l : List Value) (w : World) : Prop :=
  match l with
  | [t0, t3, t7, t8, t9, t72, t73] => s94_p10 K B1 t0 t3 t7 t8 t9 t72 t73 w
  | _ => False
theorem s94_p11_Fe {K : Value → World → Prop} {B1 : List Value → World → Prop} {t0 t3 t7 t8 t9 t72 t73 : Value} {w : World} : s94_p11_F K B1 [t0, t3, t7, t8, t9, t72, t73] w = s94_p10 K B1 t0 t3 t7 t8 t9 t72 t73 w := by kernel_rfl
def s94_p11 (K : Value → World → Prop) (t0 t3 t7 t8 t9 t72 t73 : Value) (w : World) : Prop :=
  LoopL (s94_p11_F K) [t0, t3, t7, t8, t9, t72, t73] w
def s94_p11_den (K : Value → World → Prop) : (Nat → Value) → World → Prop := fun s w => LoopP (fun M1 s w => s94_p10_den K M1 s w) s w
theorem s94_p11_ok (K : Value → World → Prop) (s : Nat → Value) (w : World) (h : s94_p11 K (s 0) (s 3) (s 7) (s 8) (s 9) (s 72) (s 73) w) : Tr (s94_p11_den K s w) :=
  tr_loop (G := fun N' s w => s94_p10_den K N' s w) (F := s94_p11_F K) (sel := fun s => [s 0, s 3, s 7, s 8, s 9, s 72, s 73]) (s := s) (w := w) (p := s94_p11 K (s 0) (s 3) (s 7) (s 8) (s 9) (s 72) (s 73) w) (q := s94_p11_den K s w) (fun B s w h => s94_p10_ok K B s w @h) (by kernel_rfl) (by kernel_rfl) @h
def s94_p12 (K : Value → World → Prop) (t0 t3 : Value) (w : World) : Prop :=
  nck t0 (fun t62 w =>
  fd 14 t62 (fun t63 w =>
  ld1 t63 (fun t64 w =>
  boI .add t64 (.int .i64 1) (fun t65 w =>
  nck t0 (fun t66 w =>
  fd 14 t66 (fun t67 w =>
  st1 t67 t65 (fun w =>
  nck t0 (fun t69 w =>
  fd 15 t69 (fun t70 w =>
  ld1 t70 (fun t71 w =>
  lnS t71 (fun t72 w =>
  s94_p11 K t0 t3 (.int .i64 0) (.int .i64 0) (.int .i64 0) t72 (.int .i64 0) w) w) w) w) w) w) w) w) w) w) w) w
def s94_p12_den (K : Value → World → Prop) : (Nat → Value) → World → Prop := denL Tryz.prog [(cd (Tryz.f94.body.getD .skip) [1, 1, 1, 1, 0]), (cd (Tryz.f94.body.getD .skip) [1, 1, 1, 1, 1, 0]), (cd (Tryz.f94.body.getD .skip) [1, 1, 1, 1, 1, 1, 0, 0])] (s94_p11_den K) (fun i => (fun _ _ => False)) (s94_R K)
theorem s94_p12_ok (K : Value → World → Prop) (s : Nat → Value) (w : World) (h : s94_p12 K (s 0) (s 3) w) : Tr (s94_p12_den K s w) :=
  tr_simple (P := Tryz.prog) (codes := [(cd (Tryz.f94.body.getD .skip) [1, 1, 1, 1, 0]), (cd (Tryz.f94.body.getD .skip) [1, 1, 1, 1, 1, 0]), (cd (Tryz.f94.body.getD .skip) [1, 1, 1, 1, 1, 1, 0, 0])]) (N := (fun s w => s94_p11 K (s 0) (s 3) (s 7) (s 8) (s 9) (s 72) (s 73) w)) (N' := (s94_p11_den K)) (X := (fun i => (fun _ _ => False))) (X' := (fun i => (fun _ _ => False))) (R := s94_R K) (s := s) (w := w) (p := s94_p12 K (s 0) (s 3) w) (q := s94_p12_den K s w) (fun s w h => s94_p11_ok K s w @h) (fun i => tr_id) (by kernel_rfl) (by kernel_rfl) @h
def s94_p13 (K : Value → World → Prop) (B1 : List Value → World → Prop) (t0 t3 t29 t30 : Value) (w : World) : Prop :=
  boI .add t30 (.int .i64 1) (fun t60 w =>
  B1 [t0, t3, t29, t60] w) w
def s94_p13_den (K : Value → World → Prop) (M1 : (Nat → Value) → World → Prop) : (Nat → Value) → World → Prop := denL Tryz.prog [(cd (Tryz.f94.body.getD .skip) [1, 1, 1, 0, 1, 0, 0, 1, 1, 1])] M1 (fun i => (bif Nat.beq i 0 then (s94_p12_den K) else (fun _ _ => False))) (s94_R K)
theorem s94_p13_ok (K : Value → World → Prop) (B1 : List Value → World → Prop) (s : Nat → Value) (w : World) (h : s94_p13 K B1 (s 0) (s 3) (s 29) (s 30) w) : Tr (s94_p13_den K (fun s w => B1 [s 0, s 3, s 29, s 30] w) s w) :=
  tr_simple (P := Tryz.prog) (codes := [(cd (Tryz.f94.body.getD .skip) [1, 1, 1, 0, 1, 0, 0, 1, 1, 1])]) (N := (fun s w => B1 [s 0, s 3, s 29, s 30] w)) (N' := (fun s w => B1 [s 0, s 3, s 29, s 30] w)) (X := (fun i => (bif Nat.beq i 0 then (fun s w => s94_p12 K (s 0) (s 3) w) else (fun _ _ => False)))) (X' := (fun i => (bif Nat.beq i 0 then (s94_p12_den K) else (fun _ _ => False)))) (R := s94_R K) (s := s) (w := w) (p := s94_p13 K B1 (s 0) (s 3) (s 29) (s 30) w) (q := s94_p13_den K (fun s w => B1 [s 0, s 3, s 29, s 30] w) s w) tr_id (fun i => (tr_bif (fun s w h => s94_p12_ok K s w @h) tr_id)) (by kernel_rfl) (by kernel_rfl) @h
def s94_p14 (K : Value → World → Prop) (B1 : List Value → World → Prop) (B2 : List Value → World → Prop) (t0 t3 t4 t5 t6 t29 t30 : Value) (w : World) : Prop :=
  boI .neq t5 (.int .i64 0) (fun t40 w =>
  ifb t40
  (cl Tryz.prog 152 #[t0, t5, t6] (fun t51 w =>
  nck t51 (fun t52 w =>
  ldn 17 t52 (fun t53 w =>
  nck t0 (fun t54 w =>
  stn 17 t54 t53 (fun w =>
  bsq 3 [(.int .i64 0)] 2 [(some (0, 1), t5), (some (1, 1), t6)] (fun t58 w =>
  apq 3 [(.int .i64 0)] 8 t3 t58 (fun t59 w =>
  cl Tryz.prog 151 #[t0, t4] (fun t44 w =>
  exq t44 0 (fun t45 w =>
  exq t44 1 (fun t46 w =>
  B2 [t0, t59, t4, t45, t46, t29, t30] w) w) w) w) w) w) w) w) w) w) w)
  (s94_p13 K B1 t0 t3 t29 t30 w)) w
def s94_p14_den (K : Value → World → Prop) (M1 : (Nat → Value) → World → Prop) (M2 : (Nat → Value) → World → Prop) : (Nat → Value) → World → Prop := denL Tryz.prog [(cd (Tryz.f94.body.getD .skip) [1, 1, 1, 0, 1, 0, 0, 1, 1, 0, 0, 1, 1, 0, 0, 0, 0]), (cd (Tryz.f94.body.getD .skip) [1, 1, 1, 0, 1, 0, 0, 1, 1, 0, 0, 1, 1, 0, 0, 0, 1]), (cd (Tryz.f94.body.getD .skip) [1, 1, 1, 0, 1, 0, 0, 1, 1, 0, 0, 1, 1, 0, 0, 1, 0]), (cd (Tryz.f94.body.getD .skip) [1, 1, 1, 0, 1, 0, 0, 1, 1, 0, 0, 1, 1, 0, 0, 1, 1])] M2 (fun i => (bif Nat.beq i 2 then (s94_p13_den K M1) else (bif Nat.beq i 1 then (s94_p13_den K M1) else (bif Nat.beq i 0 then (s94_p12_den K) else (fun _ _ => False))))) (s94_R K)
theorem s94_p14_ok (K : Value → World → Prop) (B1 : List Value → World → Prop) (B2 : List Value → World → Prop) (s : Nat → Value) (w : World) (h : s94_p14 K B1 B2 (s 0) (s 3) (s 4) (s 5) (s 6) (s 29) (s 30) w) : Tr (s94_p14_den K (fun s w => B1 [s 0, s 3, s 29, s 30] w) (fun s w => B2 [s 0, s 3, s 4, s 5, s 6, s 29, s 30] w) s w) :=
  tr_simple (P := Tryz.prog) (codes := [(cd (Tryz.f94.body.getD .skip) [1, 1, 1, 0, 1, 0, 0, 1, 1, 0, 0, 1, 1, 0, 0, 0, 0]), (cd (Tryz.f94.body.getD .skip) [1, 1, 1, 0, 1, 0, 0, 1, 1, 0, 0, 1, 1, 0, 0, 0, 1]), (cd (Tryz.f94.body.getD .skip) [1, 1, 1, 0, 1, 0, 0, 1, 1, 0, 0, 1, 1, 0, 0, 1, 0]), (cd (Tryz.f94.body.getD .skip) [1, 1, 1, 0, 1, 0, 0, 1, 1, 0, 0, 1, 1, 0, 0, 1, 1])]) (N := (fun s w => B2 [s 0, s 3, s 4, s 5, s 6, s 29, s 30] w)) (N' := (fun s w => B2 [s 0, s 3, s 4, s 5, s 6, s 29, s 30] w)) (X := (fun i => (bif Nat.beq i 2 then (fun s w => s94_p13 K B1 (s 0) (s 3) (s 29) (s 30) w) else (bif Nat.beq i 1 then (fun s w => s94_p13 K B1 (s 0) (s 3) (s 29) (s 30) w) else (bif Nat.beq i 0 then (fun s w => s94_p12 K (s 0) (s 3) w) else (fun _ _ => False)))))) (X' := (fun i => (bif Nat.beq i 2 then (s94_p13_den K (fun s w => B1 [s 0, s 3, s 29, s 30] w)) else (bif Nat.beq i 1 then (s94_p13_den K (fun s w => B1 [s 0, s 3, s 29, s 30] w)) else (bif Nat.beq i 0 then (s94_p12_den K) else (fun _ _ => False)))))) (R := s94_R K) (s := s) (w := w) (p := s94_p14 K B1 B2 (s 0) (s 3) (s 4) (s 5) (s 6) (s 29) (s 30) w) (q := s94_p14_den K (fun s w => B1 [s 0, s 3, s 29, s 30] w) (fun s w => B2 [s 0, s 3, s 4, s 5, s 6, s 29, s 30] w) s w) tr_id (fun i => (tr_bif (fun s w h => s94_p13_ok K B1 s w @h) (tr_bif (fun s w h => s94_p13_ok K B1 s w @h) (tr_bif (fun s w h => s94_p12_ok K s w @h) tr_id)))) (by kernel_rfl) (by kernel_rfl) @h
def s94_p15_F (K : Value → World → Prop) (B1 : List Value → World → Prop) (B2 : List Value → World → Prop) (l : List Value) (w : World) : Prop :=
  match l with
  | [t0, t3, t4, t5, t6, t29, t30] => s94_p14 K B1 B2 t0 t3 t4 t5 t6 t29 t30 w
  | _ => False
theorem s94_p15_Fe {K : Value → World → Prop} {B1 : List Value → World → Prop} {B2 : List Value → World → Prop} {t0 t3 t4 t5 t6 t29 t30 : Value} {w : World} : s94_p15_F K B1 B2 [t0, t3, t4, t5, t6, t29, t30] w = s94_p14 K B1 B2 t0 t3 t4 t5 t6 t29 t30 w := by kernel_rfl
def s94_p15 (K : Value → World → Prop) (B1 : List Value → World → Prop) (t0 t3 t4 t5 t6 t29 t30 : Value) (w : World) : Prop :=
  LoopL (s94_p15_F K B1) [t0, t3, t4, t5, t6, t29, t30] w
def s94_p15_den (K : Value → World → Prop) (M1 : (Nat → Value) → World → Prop) : (Nat → Value) → World → Prop := fun s w => LoopP (fun M2 s w => s94_p14_den K M1 M2 s w) s w
theorem s94_p15_ok (K : Value → World → Prop) (B1 : List Value → World → Prop) (s : Nat → Value) (w : World) (h : s94_p15 K B1 (s 0) (s 3) (s 4) (s 5) (s 6) (s 29) (s 30) w) : Tr (s94_p15_den K (fun s w => B1 [s 0, s 3, s 29, s 30] w) s w) :=
  tr_loop (G := fun N' s w => s94_p14_den K (fun s w => B1 [s 0, s 3, s 29, s 30] w) N' s w) (F := s94_p15_F K B1) (sel := fun s => [s 0, s 3, s 4, s 5, s 6, s 29, s 30]) (s := s) (w := w) (p := s94_p15 K B1 (s 0) (s 3) (s 4) (s 5) (s 6) (s 29) (s 30) w) (q := s94_p15_den K (fun s w => B1 [s 0, s 3, s 29, s 30] w) s w) (fun B s w h => s94_p14_ok K B1 B s w @h) (by kernel_rfl) (by kernel_rfl) @h
def s94_p16 (K : Value → World → Prop) (B1 : List Value → World → Prop) (t0 t3 t29 t30 : Value) (w : World) : Prop :=
  cl Tryz.prog 151 #[t0, t30] (fun t36 w =>
  exq t36 0 (fun t37 w =>
  exq t36 1 (fun t38 w =>
  s94_p15 K B1 t0 t3 t30 t37 t38 t29 t30 w) w) w) w
def s94_p16_den (K : Value → World → Prop) (M1 : (Nat → Value) → World → Prop) : (Nat → Value) → World → Prop := denL Tryz.prog [(cd (Tryz.f94.body.getD .skip) [1, 1, 1, 0, 1, 0, 0, 1, 1, 0, 0, 0]), (cd (Tryz.f94.body.getD .skip) [1, 1, 1, 0, 1, 0, 0, 1, 1, 0, 0, 1, 0])] (s94_p15_den K M1) (fun i => (bif Nat.beq i 1 then (s94_p13_den K M1) else (bif Nat.beq i 0 then (s94_p12_den K) else (fun _ _ => False)))) (s94_R K)
theorem s94_p16_ok (K : Value → World → Prop) (B1 : List Value → World → Prop) (s : Nat → Value) (w : World) (h : s94_p16 K B1 (s 0) (s 3) (s 29) (s 30) w) : Tr (s94_p16_den K (fun s w => B1 [s 0, s 3, s 29, s 30] w) s w) :=
  tr_simple (P := Tryz.prog) (codes := [(cd (Tryz.f94.body.getD .skip) [1, 1, 1, 0, 1, 0, 0, 1, 1, 0, 0, 0]), (cd (Tryz.f94.body.getD .skip) [1, 1, 1, 0, 1, 0, 0, 1, 1, 0, 0, 1, 0])]) (N := (fun s w => s94_p15 K B1 (s 0) (s 3) (s 4) (s 5) (s 6) (s 29) (s 30) w)) (N' := (s94_p15_den K (fun s w => B1 [s 0, s 3, s 29, s 30] w))) (X := (fun i => (bif Nat.beq i 1 then (fun s w => s94_p13 K B1 (s 0) (s 3) (s 29) (s 30) w) else (bif Nat.beq i 0 then (fun s w => s94_p12 K (s 0) (s 3) w) else (fun _ _ => False))))) (X' := (fun i => (bif Nat.beq i 1 then (s94_p13_den K (fun s w => B1 [s 0, s 3, s 29, s 30] w)) else (bif Nat.beq i 0 then (s94_p12_den K) else (fun _ _ => False))))) (R := s94_R K) (s := s) (w := w) (p := s94_p16 K B1 (s 0) (s 3) (s 29) (s 30) w) (q := s94_p16_den K (fun s w => B1 [s 0, s 3, s 29, s 30] w) s w) (fun s w h => s94_p15_ok K B1 s w @h) (fun i => (tr_bif (fun s w h => s94_p13_ok K B1 s w @h) (tr_bif (fun s w h => s94_p12_ok K s w @h) tr_id))) (by kernel_rfl) (by kernel_rfl) @h
def s94_p17 (K : Value → World → Prop) (B1 : List Value → World → Prop) (t0 t3 t29 t30 : Value) (w : World) : Prop :=
  boI .lss t30 t29 (fun t31 w =>
  ifb t31
  (s94_p16 K B1 t0 t3 t29 t30 w)
  (s94_p12 K t0 t3 w)) w
def s94_p17_den (K : Value → World → Prop) (M1 : (Nat → Value) → World → Prop) : (Nat → Value) → World → Prop := denL Tryz.prog [(cd (Tryz.f94.body.getD .skip) [1, 1, 1, 0, 1, 0, 0, 0]), (cd (Tryz.f94.body.getD .skip) [1, 1, 1, 0, 1, 0, 0, 1, 0])] (s94_p16_den K M1) (fun i => (bif Nat.beq i 0 then (s94_p12_den K) else (fun _ _ => False))) (s94_R K)
theorem s94_p17_ok (K : Value → World → Prop) (B1 : List Value → World → Prop) (s : Nat → Value) (w : World) (h : s94_p17 K B1 (s 0) (s 3) (s 29) (s 30) w) : Tr (s94_p17_den K (fun s w => B1 [s 0, s 3, s 29, s 30] w) s w) :=
  tr_simple (P := Tryz.prog) (codes := [(cd (Tryz.f94.body.getD .skip) [1, 1, 1, 0, 1, 0, 0, 0]), (cd (Tryz.f94.body.getD .skip) [1, 1, 1, 0, 1, 0, 0, 1, 0])]) (N := (fun s w => s94_p16 K B1 (s 0) (s 3) (s 29) (s 30) w)) (N' := (s94_p16_den K (fun s w => B1 [s 0, s 3, s 29, s 30] w))) (X := (fun i => (bif Nat.beq i 0 then (fun s w => s94_p12 K (s 0) (s 3) w) else (fun _ _ => False)))) (X' := (fun i => (bif Nat.beq i 0 then (s94_p12_den K) else (fun _ _ => False)))) (R := s94_R K) (s := s) (w := w) (p := s94_p17 K B1 (s 0) (s 3) (s 29) (s 30) w) (q := s94_p17_den K (fun s w => B1 [s 0, s 3, s 29, s 30] w) s w) (fun s w h => s94_p16_ok K B1 s w @h) (fun i => (tr_bif (fun s w h => s94_p12_ok K s w @h) tr_id)) (by kernel_rfl) (by kernel_rfl) @h
def s94_p18_F (K : Value → World → Prop) (B1 : List Value → World → Prop) (l : List Value) (w : World) : Prop :=
  match l with
  | [t0, t3, t29, t30] => s94_p17 K B1 t0 t3 t29 t30 w
  | _ => False
theorem s94_p18_Fe {K : Value → World → Prop} {B1 : List Value → World → Prop} {t0 t3 t29 t30 : Value} {w : World} : s94_p18_F K B1 [t0, t3, t29, t30] w = s94_p17 K B1 t0 t3 t29 t30 w := by kernel_rfl
def s94_p18 (K : Value → World → Prop) (t0 t3 t29 t30 : Value) (w : World) : Prop :=
  LoopL (s94_p18_F K) [t0, t3, t29, t30] w
def s94_p18_den (K : Value → World → Prop) : (Nat → Value) → World → Prop := fun s w => LoopP (fun M1 s w => s94_p17_den K M1 s w) s w
theorem s94_p18_ok (K : Value → World → Prop) (s : Nat → Value) (w : World) (h : s94_p18 K (s 0) (s 3) (s 29) (s 30) w) : Tr (s94_p18_den K s w) :=
  tr_loop (G := fun N' s w => s94_p17_den K N' s w) (F := s94_p18_F K) (sel := fun s => [s 0, s 3, s 29, s 30]) (s := s) (w := w) (p := s94_p18 K (s 0) (s 3) (s 29) (s 30) w) (q := s94_p18_den K s w) (fun B s w h => s94_p17_ok K B s w @h) (by kernel_rfl) (by kernel_rfl) @h
def s94_p19 (K : Value → World → Prop) (t0 t22 : Value) (w : World) : Prop :=
  ifb t22
  (cl Tryz.prog 83 #[(.int .i64 11)] (fun t23 w =>
  K t23 w) w)
  (bsq 3 [(.int .i64 0)] 0 [] (fun t24 w =>
  nck t0 (fun t26 w =>
  fd 16 t26 (fun t27 w =>
  ld1 t27 (fun t28 w =>
  lnS t28 (fun t29 w =>
  s94_p18 K t0 t24 t29 (.int .i64 0) w) w) w) w) w) w)
def s94_p19_den (K : Value → World → Prop) : (Nat → Value) → World → Prop := denL Tryz.prog [(cd (Tryz.f94.body.getD .skip) [1, 0, 1]), (cd (Tryz.f94.body.getD .skip) [1, 1, 0]), (cd (Tryz.f94.body.getD .skip) [1, 1, 1, 0, 0])] (s94_p18_den K) (fun i => (fun _ _ => False)) (s94_R K)
theorem s94_p19_ok (K : Value → World → Prop) (s : Nat → Value) (w : World) (h : s94_p19 K (s 0) (s 22) w) : Tr (s94_p19_den K s w) :=
  tr_simple (P := Tryz.prog) (codes := [(cd (Tryz.f94.body.getD .skip) [1, 0, 1]), (cd (Tryz.f94.body.getD .skip) [1, 1, 0]), (cd (Tryz.f94.body.getD .skip) [1, 1, 1, 0, 0])]) (N := (fun s w => s94_p18 K (s 0) (s 3) (s 29) (s 30) w)) (N' := (s94_p18_den K)) (X := (fun i => (fun _ _ => False))) (X' := (fun i => (fun _ _ => False))) (R := s94_R K) (s := s) (w := w) (p := s94_p19 K (s 0) (s 22) w) (q := s94_p19_den K s w) (fun s w h => s94_p18_ok K s w @h) (fun i => tr_id) (by kernel_rfl) (by kernel_rfl) @h
def s94_p20_d (K : Value → World → Prop) (t0 : Value) (w0 w : World) : Prop :=
  nck t0 (fun t14 _ =>
  fd 14 t14 (fun t15 _ =>
  ld1 t15 (fun t16 _ =>
  nck t0 (fun t18 _ =>
  fd 0 t18 (fun t19 _ =>
  fd 3 t19 (fun t20 _ =>
  ld1 t20 (fun t21 _ =>
  boI .eql t16 t21 (fun t22 _ =>
  s94_p19 K t0 t22 w) w0) w0) w0) w0) w0) w0) w0) w0
def s94_p20 (K : Value → World → Prop) (t0 : Value) (w : World) : Prop := s94_p20_d K t0 (drw w) (drw w)
def s94_p20_den (K : Value → World → Prop) : (Nat → Value) → World → Prop := denL Tryz.prog [(cd (Tryz.f94.body.getD .skip) [1, 0, 0])] (s94_p19_den K) (fun i => (fun _ _ => False)) (s94_R K)
theorem s94_p20_ok (K : Value → World → Prop) (s : Nat → Value) (w : World) (h : s94_p20 K (s 0) w) : Tr (s94_p20_den K s w) :=
  tr_draw (P := Tryz.prog) (ops := (ro (cd (Tryz.f94.body.getD .skip) [1, 0, 0]))) (ms := [0, 1, 3, 7, 0, 16, 48, 112, 240, 511]) (cs := [0, 1, 2, 3, 4, 5, 6, 7, 8, 9]) (N := (fun s w => s94_p19 K (s 0) (s 22) w)) (N' := (s94_p19_den K)) (s := s) (w := w) (p := s94_p20 K (s 0) w) (q := s94_p20_den K s w) (by kernel_rfl) (by kernel_rfl) (fun s w h => s94_p19_ok K s w @h) (by kernel_rfl) (by kernel_rfl) @h
def s94_p21 (K : Value → World → Prop) (t0 : Value) (w : World) : Prop :=
  s94_p20 K t0 w
def s94_p21_den (K : Value → World → Prop) : (Nat → Value) → World → Prop := denL Tryz.prog [(cd (Tryz.f94.body.getD .skip) [0])] (s94_p20_den K) (fun i => (fun _ _ => False)) (s94_R K)
theorem s94_p21_ok (K : Value → World → Prop) (s : Nat → Value) (w : World) (h : s94_p21 K (s 0) w) : Tr (s94_p21_den K s w) :=
  tr_simple (P := Tryz.prog) (codes := [(cd (Tryz.f94.body.getD .skip) [0])]) (N := (fun s w => s94_p20 K (s 0) w)) (N' := (s94_p20_den K)) (X := (fun i => (fun _ _ => False))) (X' := (fun i => (fun _ _ => False))) (R := s94_R K) (s := s) (w := w) (p := s94_p21 K (s 0) w) (q := s94_p21_den K s w) (fun s w h => s94_p20_ok K s w @h) (fun i => tr_id) (by kernel_rfl) (by kernel_rfl) @h
/-- the call, from the text -/
theorem c94 (t0 : Value) {K : Value → World → Prop} {w : World} (h : s94_p21 K t0 w) : cl Tryz.prog 94 #[t0] K w :=
  calls_of_tr (c := (Tryz.f94.body.getD .skip)) (fn := Tryz.f94) (q := s94_p21_den K (st0 #[t0]) w) Tryz.func94 (by kernel_rfl) (by kernel_rfl) (Nat.le_of_ble_eq_true (by kernel_rfl)) (by kernel_rfl) (by kernel_rfl) (s94_p21_ok K (st0 #[t0]) w @h)

/-! ### function 95 : (*e2e.enginem.State).get -/
def s95_R (K : Value → World → Prop) (s : Nat → Value) (w : World) : Prop := retv Tryz.prog s Tryz.f95.results.toList (fun vs => K (pack vs) w) w
def s95_p1 (K : Value → World → Prop) (t0 t1 : Value) (w : World) : Prop :=
  cl Tryz.prog 148 #[t0, t1] (fun t7 w =>
  un .not t7 (fun t8 w =>
  ifb t8
  (cl Tryz.prog 83 #[(.int .i64 2)] (fun t9 w =>
  K t9 w) w)
  (nck t0 (fun t11 w =>
  fd 15 t11 (fun t12 w =>
  ld1 t12 (fun t13 w =>
  boI .sub t1 (.int .i64 1) (fun t15 w =>
  ixs 7 t13 t15 (fun t16 w =>
  ldn 7 t16 (fun t17 w =>
  cl Tryz.prog 153 #[t17] (fun t18 w =>
  cl Tryz.prog 99 #[(.int .u8 16), t18] (fun t19 w =>
  K t19 w) w) w) w) w) w) w) w) w)) w) w
def s95_p1_den (K : Value → World → Prop) : (Nat → Value) → World → Prop := denL Tryz.prog [(cd (Tryz.f95.body.getD .skip) [0]), (cd (Tryz.f95.body.getD .skip) [1, 0, 0]), (cd (Tryz.f95.body.getD .skip) [1, 0, 1]), (cd (Tryz.f95.body.getD .skip) [1, 1, 0]), (cd (Tryz.f95.body.getD .skip) [1, 1, 1])] (fun _ _ => False) (fun i => (fun _ _ => False)) (s95_R K)
theorem s95_p1_ok (K : Value → World → Prop) (s : Nat → Value) (w : World) (h : s95_p1 K (s 0) (s 1) w) : Tr (s95_p1_den K s w) :=
  tr_simple (P := Tryz.prog) (codes := [(cd (Tryz.f95.body.getD .skip) [0]), (cd (Tryz.f95.body.getD .skip) [1, 0, 0]), (cd (Tryz.f95.body.getD .skip) [1, 0, 1]), (cd (Tryz.f95.body.getD .skip) [1, 1, 0]), (cd (Tryz.f95.body.getD .skip) [1, 1, 1])]) (N := (fun _ _ => False)) (N' := (fun _ _ => False)) (X := (fun i => (fun _ _ => False))) (X' := (fun i => (fun _ _ => False))) (R := s95_R K) (s := s) (w := w) (p := s95_p1 K (s 0) (s 1) w) (q := s95_p1_den K s w) tr_id (fun i => tr_id) (by kernel_rfl) (by kernel_rfl) @h
/-- the call, from the text -/
theorem c95 (t0 t1 : Value) {K : Value → World → Prop} {w : World} (h : s95_p1 K t0 t1 w) : cl Tryz.prog 95 #[t0, t1] K w :=
  calls_of_tr (c := (Tryz.f95.body.getD .skip)) (fn := Tryz.f95) (q := s95_p1_den K (st0 #[t0, t1]) w) Tryz.func95 (by kernel_rfl) (by kernel_rfl) (Nat.le_of_ble_eq_true (by kernel_rfl)) (by kernel_rfl) (by kernel_rfl) (s95_p1_ok K (st0 #[t0, t1]) w @h)

/-! ### function 96 : (*e2e.enginem.State).list -/
def s96_R (K : Value → World → Prop) (s : Nat → Value) (w : World) : Prop := retv Tryz.prog s Tryz.f96.results.toList (fun vs => K (pack vs) w) w
def s96_p1 (K : Value → World → Prop) (t7 t8 t9 : Value) (w : World) : Prop :=
  bsq 3 [(.int .i64 0)] 2 [(some (0, 1), t7), (some (1, 1), t8)] (fun t56 w =>
  apq 3 [(.int .i64 0)] 8 t56 t9 (fun t58 w =>
  cl Tryz.prog 99 #[(.int .u8 17), t58] (fun t59 w =>
  K t59 w) w) w) w
def s96_p1_den (K : Value → World → Prop) : (Nat → Value) → World → Prop := denL Tryz.prog [(cd (Tryz.f96.body.getD .skip) [1, 1, 1, 1, 0]), (cd (Tryz.f96.body.getD .skip) [1, 1, 1, 1, 1])] (fun _ _ => False) (fun i => (fun _ _ => False)) (s96_R K)
theorem s96_p1_ok (K : Value → World → Prop) (s : Nat → Value) (w : World) (h : s96_p1 K (s 7) (s 8) (s 9) w) : Tr (s96_p1_den K s w) :=
  tr_simple (P := Tryz.prog) (codes := [(cd (Tryz.f96.body.getD .skip) [1, 1, 1, 1, 0]), (cd (Tryz.f96.body.getD .skip) [1, 1, 1, 1, 1])]) (N := (fun _ _ => False)) (N' := (fun _ _ => False)) (X := (fun i => (fun _ _ => False))) (X' := (fun i => (fun _ _ => False))) (R := s96_R K) (s := s) (w := w) (p := s96_p1 K (s 7) (s 8) (s 9) w) (q := s96_p1_den K s w) tr_id (fun i => tr_id) (by kernel_rfl) (by kernel_rfl) @h
def s96_p2 (K : Value → World → Prop) (B1 : List Value → World → Prop) (t1 t2 t7 t8 t9 t32 t33 t34 : Value) (w : World) : Prop :=
  boI .add t34 (.int .i64 1) (fun t53 w =>
  B1 [t1, t2, t7, t8, t9, t32, t33, t53] w) w
def s96_p2_den (K : Value → World → Prop) (M1 : (Nat → Value) → World → Prop) : (Nat → Value) → World → Prop := denL Tryz.prog [(cd (Tryz.f96.body.getD .skip) [1, 1, 1, 0, 1, 0, 0, 1, 1, 1])] M1 (fun i => (bif Nat.beq i 0 then (s96_p1_den K) else (fun _ _ => False))) (s96_R K)
theorem s96_p2_ok (K : Value → World → Prop) (B1 : List Value → World → Prop) (s : Nat → Value) (w : World) (h : s96_p2 K B1 (s 1) (s 2) (s 7) (s 8) (s 9) (s 32) (s 33) (s 34) w) : Tr (s96_p2_den K (fun s w => B1 [s 1, s 2, s 7, s 8, s 9, s 32, s 33, s 34] w) s w) :=
  tr_simple (P := Tryz.prog) (codes := [(cd (Tryz.f96.body.getD .skip) [1, 1, 1, 0, 1, 0, 0, 1, 1, 1])]) (N := (fun s w => B1 [s 1, s 2, s 7, s 8, s 9, s 32, s 33, s 34] w)) (N' := (fun s w => B1 [s 1, s 2, s 7, s 8, s 9, s 32, s 33, s 34] w)) (X := (fun i => (bif Nat.beq i 0 then (fun s w => s96_p1 K (s 7) (s 8) (s 9) w) else (fun _ _ => False)))) (X' := (fun i => (bif Nat.beq i 0 then (s96_p1_den K) else (fun _ _ => False)))) (R := s96_R K) (s := s) (w := w) (p := s96_p2 K B1 (s 1) (s 2) (s 7) (s 8) (s 9) (s 32) (s 33) (s 34) w) (q := s96_p2_den K (fun s w => B1 [s 1, s 2, s 7, s 8, s 9, s 32, s 33, s 34] w) s w) tr_id (fun i => (tr_bif (fun s w h => s96_p1_ok K s w @h) tr_id)) (by kernel_rfl) (by kernel_rfl) @h
def s96_p3 (K : Value → World → Prop) (B1 : List Value → World → Prop) (t1 t2 t7 t8 t9 t32 t33 t34 : Value) (w : World) : Prop :=
  boI .lss t34 t33 (fun t35 w =>
  ifb t35
  (ixs 7 t32 t34 (fun t36 w =>
  ldn 7 t36 (fun t37 w =>
  nw 85 #[(.int .i64 0), (.int .i64 0), (.int .i64 0), (.int .i64 0), (.int .i64 0), (.int .i64 0), (.slice none 0 0)] (fun t11 w =>
  stn 7 t11 t37 (fun w =>
  fd 0 t11 (fun t38 w =>
  ld1 t38 (fun t39 w =>
  boI .lss t39 t1 (fun t41 w =>
  ifb t41
  (s96_p2 K B1 t1 t2 t7 t8 t9 t32 t33 t34 w)
  (boI .eql t8 t2 (fun t44 w =>
  ifb t44
  (fd 0 t11 (fun t45 w =>
  ld1 t45 (fun t46 w =>
  s96_p1 K t46 t8 t9 w) w) w)
  (boI .add t8 (.int .i64 1) (fun t48 w =>
  ldn 7 t11 (fun t50 w =>
  cl Tryz.prog 153 #[t50] (fun t51 w =>
  apq 3 [(.int .i64 0)] 8 t9 t51 (fun t52 w =>
  s96_p2 K B1 t1 t2 t7 t48 t52 t32 t33 t34 w) w) w) w) w)) w)) w) w) w) w) w) w) w)
  (s96_p1 K t7 t8 t9 w)) w
def s96_p3_den (K : Value → World → Prop) (M1 : (Nat → Value) → World → Prop) : (Nat → Value) → World → Prop := denL Tryz.prog [(cd (Tryz.f96.body.getD .skip) [1, 1, 1, 0, 1, 0, 0, 0]), (cd (Tryz.f96.body.getD .skip) [1, 1, 1, 0, 1, 0, 0, 1, 0]), (cd (Tryz.f96.body.getD .skip) [1, 1, 1, 0, 1, 0, 0, 1, 1, 0])] (s96_p2_den K M1) (fun i => (bif Nat.beq i 0 then (s96_p1_den K) else (fun _ _ => False))) (s96_R K)
theorem s96_p3_ok (K : Value → World → Prop) (B1 : List Value → World → Prop) (s : Nat → Value) (w : World) (h : s96_p3 K B1 (s 1) (s 2) (s 7) (s 8) (s 9) (s 32) (s 33) (s 34) w) : Tr (s96_p3_den K (fun s w => B1 [s 1, s 2, s 7, s 8, s 9, s 32, s 33, s 34] w) s w) :=
  tr_simple (P := Tryz.prog) (codes := [(cd (Tryz.f96.body.getD .skip) [1, 1, 1, 0, 1, 0, 0, 0]), (cd (Tryz.f96.body.getD .skip) [1, 1, 1, 0, 1, 0, 0, 1, 0]), (cd (Tryz.f96.body.getD .skip) [1, 1, 1, 0, 1, 0, 0, 1, 1, 0])]) (N := (fun s w => s96_p2 K B1 (s 1) (s 2) (s 7) (s 8) (s 9) (s 32) (s 33) (s 34) w)) (N' := (s96_p2_den K (fun s w => B1 [s 1, s 2, s 7, s 8, s 9, s 32, s 33, s 34] w))) (X := (fun i => (bif Nat.beq i 0 then (fun s w => s96_p1 K (s 7) (s 8) (s 9) w) else (fun _ _ => False)))) (X' := (fun i => (bif Nat.beq i 0 then (s96_p1_den K) else (fun _ _ => False)))) (R := s96_R K) (s := s) (w := w) (p := s96_p3 K B1 (s 1) (s 2) (s 7) (s 8) (s 9) (s 32) (s 33) (s 34) w) (q := s96_p3_den K (fun s w => B1 [s 1, s 2, s 7, s 8, s 9, s 32, s 33, s 34] w) s w) (fun s w h => s96_p2_ok K B1 s w @h) (fun i => (tr_bif (fun s w h => s96_p1_ok K s w @h) tr_id)) (by kernel_rfl) (by kernel_rfl) @h
def s96_p4_F (K : Value → World → Prop) (B1 : List Value → World → Prop) (l : List Value) (w : World) : Prop :=
  match l with
  | [t1, t2, t7, t8, t9, t32, t33, t34] => s96_p3 K B1 t1 t2 t7 t8 t9 t32 t33 t34 w
  | _ => False
theorem s96_p4_Fe {K : Value → World → Prop} {B1 : List Value → World → Prop} {t1 t2 t7 t8 t9 t32 t33 t34 : Value} {w : World} : s96_p4_F K B1 [t1, t2, t7, t8, t9, t32, t33, t34] w = s96_p3 K B1 t1 t2 t7 t8 t9 t32 t33 t34 w := by kernel_rfl
def s96_p4 (K : Value → World → Prop) (t1 t2 t7 t8 t9 t32 t33 t34 : Value) (w : World) : Prop :=
  LoopL (s96_p4_F K) [t1, t2, t7, t8, t9, t32, t33, t34] w
def s96_p4_den (K : Value → World → Prop) : (Nat → Value) → World → Prop := fun s w => LoopP (fun M1 s w => s96_p3_den K M1 s w) s w
theorem s96_p4_ok (K : Value → World → Prop) (s : Nat → Value) (w : World) (h : s96_p4 K (s 1) (s 2) (s 7) (s 8) (s 9) (s 32) (s 33) (s 34) w) : Tr (s96_p4_den K s w) :=
  tr_loop (G := fun N' s w => s96_p3_den K N' s w) (F := s96_p4_F K) (sel := fun s => [s 1, s 2, s 7, s 8, s 9, s 32, s 33, s 34]) (s := s) (w := w) (p := s96_p4 K (s 1) (s 2) (s 7) (s 8) (s 9) (s 32) (s 33) (s 34) w) (q := s96_p4_den K s w) (fun B s w h => s96_p3_ok K B s w @h) (by kernel_rfl) (by kernel_rfl) @h
def s96_p5 (K : Value → World → Prop) (t0 t1 t2 : Value) (w : World) : Prop :=
  bsq 3 [(.int .i64 0)] 0 [] (fun t28 w =>
  nck t0 (fun t30 w =>
  fd 15 t30 (fun t31 w =>
  ld1 t31 (fun t32 w =>
  lnS t32 (fun t33 w =>
  s96_p4 K t1 t2 (.int .i64 0) (.int .i64 0) t28 t32 t33 (.int .i64 0) w) w) w) w) w) w
def s96_p5_den (K : Value → World → Prop) : (Nat → Value) → World → Prop := denL Tryz.prog [(cd (Tryz.f96.body.getD .skip) [1, 1, 0]), (cd (Tryz.f96.body.getD .skip) [1, 1, 1, 0, 0])] (s96_p4_den K) (fun i => (fun _ _ => False)) (s96_R K)
theorem s96_p5_ok (K : Value → World → Prop) (s : Nat → Value) (w : World) (h : s96_p5 K (s 0) (s 1) (s 2) w) : Tr (s96_p5_den K s w) :=
  tr_simple (P := Tryz.prog) (codes := [(cd (Tryz.f96.body.getD .skip) [1, 1, 0]), (cd (Tryz.f96.body.getD .skip) [1, 1, 1, 0, 0])]) (N := (fun s w => s96_p4 K (s 1) (s 2) (s 7) (s 8) (s 9) (s 32) (s 33) (s 34) w)) (N' := (s96_p4_den K)) (X := (fun i => (fun _ _ => False))) (X' := (fun i => (fun _ _ => False))) (R := s96_R K) (s := s) (w := w) (p := s96_p5 K (s 0) (s 1) (s 2) w) (q := s96_p5_den K s w) (fun s w h => s96_p4_ok K s w @h) (fun i => tr_id) (by kernel_rfl) (by kernel_rfl) @h
def s96_p6 (K : Value → World → Prop) (t0 t1 t2 : Value) (w : World) : Prop :=
  boI .eql t2 (.int .i64 0) (fun t13 w =>
  gd t13 false (fun K w => K t2 w) (fun t15 w =>
  gd t13 false (fun K w => K t0 w) (fun t16 w =>
  gd t13 false (nck t16) (fun t17 w =>
  gd t13 false (fd 0 t17) (fun t18 w =>
  gd t13 false (fd 12 t18) (fun t19 w =>
  gd t13 false (ld1 t19) (fun t20 w =>
  gd t13 false (boI .gtr t15 t20) (fun t21 w =>
  pk t13 (.bool true) t21 (fun t22 w =>
  ifb t22
  (nck t0 (fun t24 w =>
  fd 0 t24 (fun t25 w =>
  fd 12 t25 (fun t26 w =>
  ld1 t26 (fun t27 w =>
  s96_p5 K t0 t1 t27 w) w) w) w) w)
  (s96_p5 K t0 t1 t2 w)) w) w) w) w) w) w) w) w) w
def s96_p6_den (K : Value → World → Prop) : (Nat → Value) → World → Prop := denL Tryz.prog [(cd (Tryz.f96.body.getD .skip) [0]), (cd (Tryz.f96.body.getD .skip) [1, 0, 0]), (cd (Tryz.f96.body.getD .skip) [1, 0, 1])] (s96_p5_den K) (fun i => (fun _ _ => False)) (s96_R K)
theorem s96_p6_ok (K : Value → World → Prop) (s : Nat → Value) (w : World) (h : s96_p6 K (s 0) (s 1) (s 2) w) : Tr (s96_p6_den K s w) :=
  tr_simple (P := Tryz.prog) (codes := [(cd (Tryz.f96.body.getD .skip) [0]), (cd (Tryz.f96.body.getD .skip) [1, 0, 0]), (cd (Tryz.f96.body.getD .skip) [1, 0, 1])]) (N := (fun s w => s96_p5 K (s 0) (s 1) (s 2) w)) (N' := (s96_p5_den K)) (X := (fun i => (fun _ _ => False))) (X' := (fun i => (fun _ _ => False))) (R := s96_R K) (s := s) (w := w) (p := s96_p6 K (s 0) (s 1) (s 2) w) (q := s96_p6_den K s w) (fun s w h => s96_p5_ok K s w @h) (fun i => tr_id) (by kernel_rfl) (by kernel_rfl) @h
/-- the call, from the text -/
theorem c96 (t0 t1 t2 : Value) {K : Value → World → Prop} {w : World} (h : s96_p6 K t0 t1 t2 w) : cl Tryz.prog 96 #[t0, t1, t2] K w :=
  calls_of_tr (c := (Tryz.f96.body.getD .skip)) (fn := Tryz.f96) (q := s96_p6_den K (st0 #[t0, t1, t2]) w) Tryz.func96 (by kernel_rfl) (by kernel_rfl) (Nat.le_of_ble_eq_true (by kernel_rfl)) (by kernel_rfl) (by kernel_rfl) (s96_p6_ok K (st0 #[t0, t1, t2]) w @h)

/-! ### function 97 : (*e2e.enginem.State).slot -/
def s97_R (K : Value → World → Prop) (s : Nat → Value) (w : World) : Prop := retv Tryz.prog s Tryz.f97.results.toList (fun vs => K (pack vs) w) w
def s97_p1 (K : Value → World → Prop) (t0 t1 t2 t7 : Value) (w : World) : Prop :=
  cl Tryz.prog 155 #[t0, t1, t2] (fun t69 w =>
  cl Tryz.prog 156 #[t0, t1, t2, (.int .i64 0)] (fun t73 w =>
  cl Tryz.prog 156 #[t0, t1, t2, (.int .i64 1)] (fun t77 w =>
  cl Tryz.prog 156 #[t0, t1, t2, (.int .i64 2)] (fun t81 w =>
  bsq 3 [(.int .i64 0)] 5 [(some (0, 1), t69), (some (1, 1), t73), (some (2, 1), t77), (some (3, 1), t81), (some (4, 1), t7)] (fun t83 w =>
  cl Tryz.prog 99 #[(.int .u8 18), t83] (fun t84 w =>
  K t84 w) w) w) w) w) w) w
def s97_p1_den (K : Value → World → Prop) : (Nat → Value) → World → Prop := denL Tryz.prog [(cd (Tryz.f97.body.getD .skip) [1, 1, 1, 1, 1, 0]), (cd (Tryz.f97.body.getD .skip) [1, 1, 1, 1, 1, 1])] (fun _ _ => False) (fun i => (fun _ _ => False)) (s97_R K)
theorem s97_p1_ok (K : Value → World → Prop) (s : Nat → Value) (w : World) (h : s97_p1 K (s 0) (s 1) (s 2) (s 7) w) : Tr (s97_p1_den K s w) :=
  tr_simple (P := Tryz.prog) (codes := [(cd (Tryz.f97.body.getD .skip) [1, 1, 1, 1, 1, 0]), (cd (Tryz.f97.body.getD .skip) [1, 1, 1, 1, 1, 1])]) (N := (fun _ _ => False)) (N' := (fun _ _ => False)) (X := (fun i => (fun _ _ => False))) (X' := (fun i => (fun _ _ => False))) (R := s97_R K) (s := s) (w := w) (p := s97_p1 K (s 0) (s 1) (s 2) (s 7) w) (q := s97_p1_den K s w) tr_id (fun i => tr_id) (by kernel_rfl) (by kernel_rfl) @h
def s97_p2 (K : Value → World → Prop) (B1 : List Value → World → Prop) (t0 t1 t2 t7 t8 : Value) (w : World) : Prop :=
  boI .add t8 (.int .i64 1) (fun t47 w =>
  B1 [t0, t1, t2, t7, t47] w) w
def s97_p2_den (K : Value → World → Prop) (M1 : (Nat → Value) → World → Prop) : (Nat → Value) → World → Prop := denL Tryz.prog [(cd (Tryz.f97.body.getD .skip) [1, 1, 1, 1, 0, 1, 0, 0, 1, 1])] M1 (fun i => (bif Nat.beq i 0 then (s97_p1_den K) else (fun _ _ => False))) (s97_R K)
theorem s97_p2_ok (K : Value → World → Prop) (B1 : List Value → World → Prop) (s : Nat → Value) (w : World) (h : s97_p2 K B1 (s 0) (s 1) (s 2) (s 7) (s 8) w) : Tr (s97_p2_den K (fun s w => B1 [s 0, s 1, s 2, s 7, s 8] w) s w) :=
  tr_simple (P := Tryz.prog) (codes := [(cd (Tryz.f97.body.getD .skip) [1, 1, 1, 1, 0, 1, 0, 0, 1, 1])]) (N := (fun s w => B1 [s 0, s 1, s 2, s 7, s 8] w)) (N' := (fun s w => B1 [s 0, s 1, s 2, s 7, s 8] w)) (X := (fun i => (bif Nat.beq i 0 then (fun s w => s97_p1 K (s 0) (s 1) (s 2) (s 7) w) else (fun _ _ => False)))) (X' := (fun i => (bif Nat.beq i 0 then (s97_p1_den K) else (fun _ _ => False)))) (R := s97_R K) (s := s) (w := w) (p := s97_p2 K B1 (s 0) (s 1) (s 2) (s 7) (s 8) w) (q := s97_p2_den K (fun s w => B1 [s 0, s 1, s 2, s 7, s 8] w) s w) tr_id (fun i => (tr_bif (fun s w h => s97_p1_ok K s w @h) tr_id)) (by kernel_rfl) (by kernel_rfl) @h
def s97_p3 (K : Value → World → Prop) (B1 : List Value → World → Prop) (B2 : List Value → World → Prop) (t0 t1 t2 t7 t8 t63 : Value) (w : World) : Prop :=
  ifb t63
  (boI .sub t7 (.int .i64 1) (fun t65 w =>
  B2 [t0, t1, t2, t65, t8] w) w)
  (s97_p2 K B1 t0 t1 t2 t7 t8 w)
def s97_p3_den (K : Value → World → Prop) (M1 : (Nat → Value) → World → Prop) (M2 : (Nat → Value) → World → Prop) : (Nat → Value) → World → Prop := denL Tryz.prog [(cd (Tryz.f97.body.getD .skip) [1, 1, 1, 1, 0, 1, 0, 0, 1, 0, 0, 0, 0, 0, 1]), (cd (Tryz.f97.body.getD .skip) [1, 1, 1, 1, 0, 1, 0, 0, 1, 0, 0, 0, 0, 1])] M2 (fun i => (bif Nat.beq i 2 then (s97_p2_den K M1) else (bif Nat.beq i 1 then (s97_p2_den K M1) else (bif Nat.beq i 0 then (s97_p1_den K) else (fun _ _ => False))))) (s97_R K)
theorem s97_p3_ok (K : Value → World → Prop) (B1 : List Value → World → Prop) (B2 : List Value → World → Prop) (s : Nat → Value) (w : World) (h : s97_p3 K B1 B2 (s 0) (s 1) (s 2) (s 7) (s 8) (s 63) w) : Tr (s97_p3_den K (fun s w => B1 [s 0, s 1, s 2, s 7, s 8] w) (fun s w => B2 [s 0, s 1, s 2, s 7, s 8] w) s w) :=
  tr_simple (P := Tryz.prog) (codes := [(cd (Tryz.f97.body.getD .skip) [1, 1, 1, 1, 0, 1, 0, 0, 1, 0, 0, 0, 0, 0, 1]), (cd (Tryz.f97.body.getD .skip) [1, 1, 1, 1, 0, 1, 0, 0, 1, 0, 0, 0, 0, 1])]) (N := (fun s w => B2 [s 0, s 1, s 2, s 7, s 8] w)) (N' := (fun s w => B2 [s 0, s 1, s 2, s 7, s 8] w)) (X := (fun i => (bif Nat.beq i 2 then (fun s w => s97_p2 K B1 (s 0) (s 1) (s 2) (s 7) (s 8) w) else (bif Nat.beq i 1 then (fun s w => s97_p2 K B1 (s 0) (s 1) (s 2) (s 7) (s 8) w) else (bif Nat.beq i 0 then (fun s w => s97_p1 K (s 0) (s 1) (s 2) (s 7) w) else (fun _ _ => False)))))) (X' := (fun i => (bif Nat.beq i 2 then (s97_p2_den K (fun s w => B1 [s 0, s 1, s 2, s 7, s 8] w)) else (bif Nat.beq i 1 then (s97_p2_den K (fun s w => B1 [s 0, s 1, s 2, s 7, s 8] w)) else (bif Nat.beq i 0 then (s97_p1_den K) else (fun _ _ => False)))))) (R := s97_R K) (s := s) (w := w) (p := s97_p3 K B1 B2 (s 0) (s 1) (s 2) (s 7) (s 8) (s 63) w) (q := s97_p3_den K (fun s w => B1 [s 0, s 1, s 2, s 7, s 8] w) (fun s w => B2 [s 0, s 1, s 2, s 7, s 8] w) s w) tr_id (fun i => (tr_bif (fun s w h => s97_p2_ok K B1 s w @h) (tr_bif (fun s w h => s97_p2_ok K B1 s w @h) (tr_bif (fun s w h => s97_p1_ok K s w @h) tr_id)))) (by kernel_rfl) (by kernel_rfl) @h
def s97_p4_d (K : Value → World → Prop) (B1 : List Value → World → Prop) (B2 : List Value → World → Prop) (t0 t1 t2 t7 t8 : Value) (w0 w : World) : Prop :=
  nck t0 (fun t55 _ =>
  fd 0 t55 (fun t56 _ =>
  fd 0 t56 (fun t57 _ =>
  ld1 t57 (fun t58 _ =>
  ixs 5 t58 t1 (fun t60 _ =>
  fd 0 t60 (fun t61 _ =>
  ld1 t61 (fun t62 _ =>
  cl Tryz.prog 155 #[t0, t1, t8] (fun t51 w =>
  Below w0.heap.size w0 w ∧
  boI .add t51 t7 (fun t53 w =>
  Below w0.heap.size w0 w ∧
  boI .gtr t53 t62 (fun t63 w =>
  s97_p3 K B1 B2 t0 t1 t2 t7 t8 t63 w) w) w) w) w0) w0) w0) w0) w0) w0) w0
def s97_p4 (K : Value → World → Prop) (B1 : List Value → World → Prop) (B2 : List Value → World → Prop) (t0 t1 t2 t7 t8 : Value) (w : World) : Prop := s97_p4_d K B1 B2 t0 t1 t2 t7 t8 (drw w) (drw w)
def s97_p4_den (K : Value → World → Prop) (M1 : (Nat → Value) → World → Prop) (M2 : (Nat → Value) → World → Prop) : (Nat → Value) → World → Prop := denL Tryz.prog [(cd (Tryz.f97.body.getD .skip) [1, 1, 1, 1, 0, 1, 0, 0, 1, 0, 0, 0, 0, 0, 0])] (s97_p3_den K M1 M2) (fun i => (bif Nat.beq i 2 then (s97_p2_den K M1) else (bif Nat.beq i 1 then (s97_p2_den K M1) else (bif Nat.beq i 0 then (s97_p1_den K) else (fun _ _ => False))))) (s97_R K)
theorem s97_p4_ok (K : Value → World → Prop) (B1 : List Value → World → Prop) (B2 : List Value → World → Prop) (s : Nat → Value) (w : World) (h : s97_p4 K B1 B2 (s 0) (s 1) (s 2) (s 7) (s 8) w) : Tr (s97_p4_den K (fun s w => B1 [s 0, s 1, s 2, s 7, s 8] w) (fun s w => B2 [s 0, s 1, s 2, s 7, s 8] w) s w) :=
  tr_draw (P := Tryz.prog) (ops := (ro (cd (Tryz.f97.body.getD .skip) [1, 1, 1, 1, 0, 1, 0, 0, 1, 0, 0, 0, 0, 0, 0]))) (ms := [0, 0, 0, 7, 0, 31, 0, 64, 192, 448, 960, 0, 4032, 8128, 16320, 32767]) (cs := [0, 1, 2, 4, 6, 7, 8, 9, 10, 11, 12, 13, 14]) (N := (fun s w => s97_p3 K B1 B2 (s 0) (s 1) (s 2) (s 7) (s 8) (s 63) w)) (N' := (s97_p3_den K (fun s w => B1 [s 0, s 1, s 2, s 7, s 8] w) (fun s w => B2 [s 0, s 1, s 2, s 7, s 8] w))) (s := s) (w := w) (p := s97_p4 K B1 B2 (s 0) (s 1) (s 2) (s 7) (s 8) w) (q := s97_p4_den K (fun s w => B1 [s 0, s 1, s 2, s 7, s 8] w) (fun s w => B2 [s 0, s 1, s 2, s 7, s 8] w) s w) (by kernel_rfl) (by kernel_rfl) (fun s w h => s97_p3_ok K B1 B2 s w @h) (by kernel_rfl) (by kernel_rfl) @h
def s97_p5_F (K : Value → World → Prop) (B1 : List Value → World → Prop) (B2 : List Value → World → Prop) (l : List Value) (w : World) : Prop :=
  match l with
  | [t0, t1, t2, t7, t8] => s97_p4 K B1 B2 t0 t1 t2 t7 t8 w
  | _ => False
theorem s97_p5_Fe {K : Value → World → Prop} {B1 : List Value → World → Prop} {B2 : List Value → World → Prop} {t0 t1 t2 t7 t8 : Value} {w : World} : s97_p5_F K B1 B2 [t0, t1, t2, t7, t8] w = s97_p4 K B1 B2 t0 t1 t2 t7 t8 w := by kernel_rfl
def s97_p5 (K : Value → World → Prop) (B1 : List Value → World → Prop) (t0 t1 t2 t7 t8 : Value) (w : World) : Prop :=
  LoopL (s97_p5_F K B1) [t0, t1, t2, t7, t8] w
def s97_p5_den (K : Value → World → Prop) (M1 : (Nat → Value) → World → Prop) : (Nat → Value) → World → Prop := fun s w => LoopP (fun M2 s w => s97_p4_den K M1 M2 s w) s w
theorem s97_p5_ok (K : Value → World → Prop) (B1 : List Value → World → Prop) (s : Nat → Value) (w : World) (h : s97_p5 K B1 (s 0) (s 1) (s 2) (s 7) (s 8) w) : Tr (s97_p5_den K (fun s w => B1 [s 0, s 1, s 2, s 7, s 8] w) s w) :=
  tr_loop (G := fun N' s w => s97_p4_den K (fun s w => B1 [s 0, s 1, s 2, s 7, s 8] w) N' s w) (F := s97_p5_F K B1) (sel := fun s => [s 0, s 1, s 2, s 7, s 8]) (s := s) (w := w) (p := s97_p5 K B1 (s 0) (s 1) (s 2) (s 7) (s 8) w) (q := s97_p5_den K (fun s w => B1 [s 0, s 1, s 2, s 7, s 8] w) s w) (fun B s w h => s97_p4_ok K B1 B s w @h) (by kernel_rfl) (by kernel_rfl) @h
def s97_p6 (K : Value → World → Prop) (B1 : List Value → World → Prop) (t0 t1 t2 t7 t8 : Value) (w : World) : Prop :=
  nck t0 (fun t36 w =>
  fd 0 t36 (fun t37 w =>
  fd 0 t37 (fun t38 w =>
  ld1 t38 (fun t39 w =>
  ixs 5 t39 t1 (fun t41 w =>
  fd 1 t41 (fun t42 w =>
  ld1 t42 (fun t43 w =>
  boI .add t2 t43 (fun t44 w =>
  boI .lss t8 t44 (fun t45 w =>
  ifb t45
  (s97_p5 K B1 t0 t1 t2 t7 t8 w)
  (s97_p1 K t0 t1 t2 t7 w)) w) w) w) w) w) w) w) w) w
def s97_p6_den (K : Value → World → Prop) (M1 : (Nat → Value) → World → Prop) : (Nat → Value) → World → Prop := denL Tryz.prog [(cd (Tryz.f97.body.getD .skip) [1, 1, 1, 1, 0, 1, 0, 0, 0, 0]), (cd (Tryz.f97.body.getD .skip) [1, 1, 1, 1, 0, 1, 0, 0, 0, 1])] (s97_p5_den K M1) (fun i => (bif Nat.beq i 0 then (s97_p1_den K) else (fun _ _ => False))) (s97_R K)
theorem s97_p6_ok (K : Value → World → Prop) (B1 : List Value → World → Prop) (s : Nat → Value) (w : World) (h : s97_p6 K B1 (s 0) (s 1) (s 2) (s 7) (s 8) w) : Tr (s97_p6_den K (fun s w => B1 [s 0, s 1, s 2, s 7, s 8] w) s w) :=
  tr_simple (P := Tryz.prog) (codes := [(cd (Tryz.f97.body.getD .skip) [1, 1, 1, 1, 0, 1, 0, 0, 0, 0]), (cd (Tryz.f97.body.getD .skip) [1, 1, 1, 1, 0, 1, 0, 0, 0, 1])]) (N := (fun s w => s97_p5 K B1 (s 0) (s 1) (s 2) (s 7) (s 8) w)) (N' := (s97_p5_den K (fun s w => B1 [s 0, s 1, s 2, s 7, s 8] w))) (X := (fun i => (bif Nat.beq i 0 then (fun s w => s97_p1 K (s 0) (s 1) (s 2) (s 7) w) else (fun _ _ => False)))) (X' := (fun i => (bif Nat.beq i 0 then (s97_p1_den K) else (fun _ _ => False)))) (R := s97_R K) (s := s) (w := w) (p := s97_p6 K B1 (s 0) (s 1) (s 2) (s 7) (s 8) w) (q := s97_p6_den K (fun s w => B1 [s 0, s 1, s 2, s 7, s 8] w) s w) (fun s w h => s97_p5_ok K B1 s w @h) (fun i => (tr_bif (fun s w h => s97_p1_ok K s w @h) tr_id)) (by kernel_rfl) (by kernel_rfl) @h
def s97_p7_F (K : Value → World → Prop) (B1 : List Value → World → Prop) (l : List Value) (w : World) : Prop :=
  match l with
  | [t0, t1, t2, t7, t8] => s97_p6 K B1 t0 t1 t2 t7 t8 w
  | _ => False
theorem s97_p7_Fe {K : Value → World → Prop} {B1 : List Value → World → Prop} {t0 t1 t2 t7 t8 : Value} {w : World} : s97_p7_F K B1 [t0, t1, t2, t7, t8] w = s97_p6 K B1 t0 t1 t2 t7 t8 w := by kernel_rfl
def s97_p7 (K : Value → World → Prop) (t0 t1 t2 t7 t8 : Value) (w : World) : Prop :=
  LoopL (s97_p7_F K) [t0, t1, t2, t7, t8] w
def s97_p7_den (K : Value → World → Prop) : (Nat → Value) → World → Prop := fun s w => LoopP (fun M1 s w => s97_p6_den K M1 s w) s w
theorem s97_p7_ok (K : Value → World → Prop) (s : Nat → Value) (w : World) (h : s97_p7 K (s 0) (s 1) (s 2) (s 7) (s 8) w) : Tr (s97_p7_den K s w) :=
  tr_loop (G := fun N' s w => s97_p6_den K N' s w) (F := s97_p7_F K) (sel := fun s => [s 0, s 1, s 2, s 7, s 8]) (s := s) (w := w) (p := s97_p7 K (s 0) (s 1) (s 2) (s 7) (s 8) w) (q := s97_p7_den K s w) (fun B s w h => s97_p6_ok K B s w @h) (by kernel_rfl) (by kernel_rfl) @h
def s97_p8 (K : Value → World → Prop) (t0 t1 t2 : Value) (w : World) : Prop :=
  nck t0 (fun t11 w =>
  fd 0 t11 (fun t12 w =>
  fd 0 t12 (fun t13 w =>
  ld1 t13 (fun t14 w =>
  lnS t14 (fun t15 w =>
  boI .geq t1 t15 (fun t16 w =>
  ifb t16
  (cl Tryz.prog 83 #[(.int .i64 13)] (fun t17 w =>
  K t17 w) w)
  (cl Tryz.prog 154 #[t0, t2] (fun t20 w =>
  un .not t20 (fun t21 w =>
  ifb t21
  (cl Tryz.prog 83 #[(.int .i64 3)] (fun t22 w =>
  K t22 w) w)
  (nck t0 (fun t24 w =>
  fd 0 t24 (fun t25 w =>
  fd 0 t25 (fun t26 w =>
  ld1 t26 (fun t27 w =>
  ixs 5 t27 t1 (fun t29 w =>
  fd 0 t29 (fun t30 w =>
  ld1 t30 (fun t31 w =>
  s97_p7 K t0 t1 t2 t31 t2 w) w) w) w) w) w) w) w)) w) w)) w) w) w) w) w) w
def s97_p8_den (K : Value → World → Prop) : (Nat → Value) → World → Prop := denL Tryz.prog [(cd (Tryz.f97.body.getD .skip) [0]), (cd (Tryz.f97.body.getD .skip) [1, 0, 0]), (cd (Tryz.f97.body.getD .skip) [1, 0, 1]), (cd (Tryz.f97.body.getD .skip) [1, 1, 0, 0]), (cd (Tryz.f97.body.getD .skip) [1, 1, 0, 1]), (cd (Tryz.f97.body.getD .skip) [1, 1, 1, 0]), (cd (Tryz.f97.body.getD .skip) [1, 1, 1, 1, 0, 0])] (s97_p7_den K) (fun i => (fun _ _ => False)) (s97_R K)
theorem s97_p8_ok (K : Value → World → Prop) (s : Nat → Value) (w : World) (h : s97_p8 K (s 0) (s 1) (s 2) w) : Tr (s97_p8_den K s w) :=
  tr_simple (P := Tryz.prog) (codes := [(cd (Tryz.f97.body.getD .skip) [0]), (cd (Tryz.f97.body.getD .skip) [1, 0, 0]), (cd (Tryz.f97.body.getD .skip) [1, 0, 1]), (cd (Tryz.f97.body.getD .skip) [1, 1, 0, 0]), (cd (Tryz.f97.body.getD .skip) [1, 1, 0, 1]), (cd (Tryz.f97.body.getD .skip) [1, 1, 1, 0]), (cd (Tryz.f97.body.getD .skip) [1, 1, 1, 1, 0, 0])]) (N := (fun s w => s97_p7 K (s 0) (s 1) (s 2) (s 7) (s 8) w)) (N' := (s97_p7_den K)) (X := (fun i => (fun _ _ => False))) (X' := (fun i => (fun _ _ => False))) (R := s97_R K) (s := s) (w := w) (p := s97_p8 K (s 0) (s 1) (s 2) w) (q := s97_p8_den K s w) (fun s w h => s97_p7_ok K s w @h) (fun i => tr_id) (by kernel_rfl) (by kernel_rfl) @h
/-- the call, from the text -/
theorem c97 (t0 t1 t2 : Value) {K : Value → World → Prop} {w : World} (h : s97_p8 K t0 t1 t2 w) : cl Tryz.prog 97 #[t0, t1, t2] K w :=
  calls_of_tr (c := (Tryz.f97.body.getD .skip)) (fn := Tryz.f97) (q := s97_p8_den K (st0 #[t0, t1, t2]) w) Tryz.func97 (by kernel_rfl) (by kernel_rfl) (Nat.le_of_ble_eq_true (by kernel_rfl)) (by kernel_rfl) (by kernel_rfl) (s97_p8_ok K (st0 #[t0, t1, t2]) w @h)

/-! ### function 98 : (*e2e.enginem.State).line -/
def s98_R (K : Value → World → Prop) (s : Nat → Value) (w : World) : Prop := retv Tryz.prog s Tryz.f98.results.toList (fun vs => K (pack vs) w) w
def s98_p1 (K : Value → World → Prop) (t4 : Value) (w : World) : Prop :=
  K t4 w
def s98_p1_den (K : Value → World → Prop) : (Nat → Value) → World → Prop := denL Tryz.prog [(cd (Tryz.f98.body.getD .skip) [1, 1, 1])] (fun _ _ => False) (fun i => (fun _ _ => False)) (s98_R K)
theorem s98_p1_ok (K : Value → World → Prop) (s : Nat → Value) (w : World) (h : s98_p1 K (s 4) w) : Tr (s98_p1_den K s w) :=
  tr_simple (P := Tryz.prog) (codes := [(cd (Tryz.f98.body.getD .skip) [1, 1, 1])]) (N := (fun _ _ => False)) (N' := (fun _ _ => False)) (X := (fun i => (fun _ _ => False))) (X' := (fun i => (fun _ _ => False))) (R := s98_R K) (s := s) (w := w) (p := s98_p1 K (s 4) w) (q := s98_p1_den K s w) tr_id (fun i => tr_id) (by kernel_rfl) (by kernel_rfl) @h
def s98_p2_d (K : Value → World → Prop) (t0 t1 : Value) (w0 w : World) : Prop :=
  nck t0 (fun t15 _ =>
  fd 16 t15 (fun t16 _ =>
  ld1 t16 (fun t17 _ =>
  ixs 1 t17 t1 (fun t19 _ =>
  ld1 t19 (fun t20 _ =>
  lnS t20 (fun t21 _ =>
  nck t0 (fun t24 _ =>
  fd 16 t24 (fun t25 _ =>
  ld1 t25 (fun t26 _ =>
  ixs 1 t26 t1 (fun t28 _ =>
  ld1 t28 (fun t29 _ =>
  bsq 3 [(.int .i64 0)] 1 [(some (0, 1), t21)] (fun t22 w =>
  Below w0.heap.size w0 w ∧
  apq 3 [(.int .i64 0)] 8 t22 t29 (fun t30 w =>
  cl Tryz.prog 99 #[(.int .u8 19), t30] (fun t31 w =>
  s98_p1 K t31 w) w) w) w) w0) w0) w0) w0) w0) w0) w0) w0) w0) w0) w0
def s98_p2 (K : Value → World → Prop) (t0 t1 : Value) (w : World) : Prop := s98_p2_d K t0 t1 (drw w) (drw w)
def s98_p2_den (K : Value → World → Prop) : (Nat → Value) → World → Prop := denL Tryz.prog [(cd (Tryz.f98.body.getD .skip) [1, 1, 0])] (s98_p1_den K) (fun i => (fun _ _ => False)) (s98_R K)
theorem s98_p2_ok (K : Value → World → Prop) (s : Nat → Value) (w : World) (h : s98_p2 K (s 0) (s 1) w) : Tr (s98_p2_den K s w) :=
  tr_draw (P := Tryz.prog) (ops := (ro (cd (Tryz.f98.body.getD .skip) [1, 1, 0]))) (ms := [0, 1, 3, 7, 0, 31, 63, 127, 255, 0, 512, 1536, 3584, 0, 15872, 32256, 65535, 131071, 262143]) (cs := [0, 1, 2, 3, 4, 5, 6, 7, 9, 10, 11, 12, 13, 14, 15]) (N := (fun s w => s98_p1 K (s 4) w)) (N' := (s98_p1_den K)) (s := s) (w := w) (p := s98_p2 K (s 0) (s 1) w) (q := s98_p2_den K s w) (by kernel_rfl) (by kernel_rfl) (fun s w h => s98_p1_ok K s w @h) (by kernel_rfl) (by kernel_rfl) @h
def s98_p3 (K : Value → World → Prop) (t0 t1 : Value) (w : World) : Prop :=
  nck t0 (fun t7 w =>
  fd 0 t7 (fun t8 w =>
  fd 0 t8 (fun t9 w =>
  ld1 t9 (fun t10 w =>
  lnS t10 (fun t11 w =>
  boI .geq t1 t11 (fun t12 w =>
  ifb t12
  (cl Tryz.prog 83 #[(.int .i64 13)] (fun t13 w =>
  K t13 w) w)
  (s98_p2 K t0 t1 w)) w) w) w) w) w) w
def s98_p3_den (K : Value → World → Prop) : (Nat → Value) → World → Prop := denL Tryz.prog [(cd (Tryz.f98.body.getD .skip) [0]), (cd (Tryz.f98.body.getD .skip) [1, 0, 0]), (cd (Tryz.f98.body.getD .skip) [1, 0, 1])] (s98_p2_den K) (fun i => (fun _ _ => False)) (s98_R K)
theorem s98_p3_ok (K : Value → World → Prop) (s : Nat → Value) (w : World) (h : s98_p3 K (s 0) (s 1) w) : Tr (s98_p3_den K s w) :=
  tr_simple (P := Tryz.prog) (codes := [(cd (Tryz.f98.body.getD .skip) [0]), (cd (Tryz.f98.body.getD .skip) [1, 0, 0]), (cd (Tryz.f98.body.getD .skip) [1, 0, 1])]) (N := (fun s w => s98_p2 K (s 0) (s 1) w)) (N' := (s98_p2_den K)) (X := (fun i => (fun _ _ => False))) (X' := (fun i => (fun _ _ => False))) (R := s98_R K) (s := s) (w := w) (p := s98_p3 K (s 0) (s 1) w) (q := s98_p3_den K s w) (fun s w h => s98_p2_ok K s w @h) (fun i => tr_id) (by kernel_rfl) (by kernel_rfl) @h
/-- the call, from the text -/
theorem c98 (t0 t1 : Value) {K : Value → World → Prop} {w : World} (h : s98_p3 K t0 t1 w) : cl Tryz.prog 98 #[t0, t1] K w :=
  calls_of_tr (c := (Tryz.f98.body.getD .skip)) (fn := Tryz.f98) (q := s98_p3_den K (st0 #[t0, t1]) w) Tryz.func98 (by kernel_rfl) (by kernel_rfl) (Nat.le_of_ble_eq_true (by kernel_rfl)) (by kernel_rfl) (by kernel_rfl) (s98_p3_ok K (st0 #[t0, t1]) w @h)

/-! ### function 99 : e2e.enginem.yes -/
def s99_R (K : Value → World → Prop) (s : Nat → Value) (w : World) : Prop := retv Tryz.prog s Tryz.f99.results.toList (fun vs => K (pack vs) w) w
def s99_p1 (K : Value → World → Prop) (t5 : Value) (w : World) : Prop :=
  K t5 w
def s99_p1_den (K : Value → World → Prop) : (Nat → Value) → World → Prop := denL Tryz.prog [(cd (Tryz.f99.body.getD .skip) [1, 1, 1, 0]), (cd (Tryz.f99.body.getD .skip) [1, 1, 1, 1])] (fun _ _ => False) (fun i => (fun _ _ => False)) (s99_R K)
theorem s99_p1_ok (K : Value → World → Prop) (s : Nat → Value) (w : World) (h : s99_p1 K (s 5) w) : Tr (s99_p1_den K s w) :=
  tr_simple (P := Tryz.prog) (codes := [(cd (Tryz.f99.body.getD .skip) [1, 1, 1, 0]), (cd (Tryz.f99.body.getD .skip) [1, 1, 1, 1])]) (N := (fun _ _ => False)) (N' := (fun _ _ => False)) (X := (fun i => (fun _ _ => False))) (X' := (fun i => (fun _ _ => False))) (R := s99_R K) (s := s) (w := w) (p := s99_p1 K (s 5) w) (q := s99_p1_den K s w) tr_id (fun i => tr_id) (by kernel_rfl) (by kernel_rfl) @h
def s99_p2 (K : Value → World → Prop) (B1 : List Value → World → Prop) (t5 t10 t11 t12 : Value) (w : World) : Prop :=
  boI .lss t12 t11 (fun t13 w =>
  ifb t13
  (ixs 1 t10 t12 (fun t14 w =>
  ld1 t14 (fun t15 w =>
  cl Tryz.prog 139 #[t15] (fun t18 w =>
  apq 5 [(.int .u8 0)] 1 t5 t18 (fun t19 w =>
  boI .add t12 (.int .i64 1) (fun t20 w =>
  B1 [t19, t10, t11, t20] w) w) w) w) w) w)
  (s99_p1 K t5 w)) w
def s99_p2_den (K : Value → World → Prop) (M1 : (Nat → Value) → World → Prop) : (Nat → Value) → World → Prop := denL Tryz.prog [(cd (Tryz.f99.body.getD .skip) [1, 1, 0, 1, 0, 0, 0]), (cd (Tryz.f99.body.getD .skip) [1, 1, 0, 1, 0, 0, 1, 0]), (cd (Tryz.f99.body.getD .skip) [1, 1, 0, 1, 0, 0, 1, 1, 0]), (cd (Tryz.f99.body.getD .skip) [1, 1, 0, 1, 0, 0, 1, 1, 1])] M1 (fun i => (bif Nat.beq i 0 then (s99_p1_den K) else (fun _ _ => False))) (s99_R K)
theorem s99_p2_ok (K : Value → World → Prop) (B1 : List Value → World → Prop) (s : Nat → Value) (w : World) (h : s99_p2 K B1 (s 5) (s 10) (s 11) (s 12) w) : Tr (s99_p2_den K (fun s w => B1 [s 5, s 10, s 11, s 12] w) s w) :=
  tr_simple (P := Tryz.prog) (codes := [(cd (Tryz.f99.body.getD .skip) [1, 1, 0, 1, 0, 0, 0]), (cd (Tryz.f99.body.getD .skip) [1, 1, 0, 1, 0, 0, 1, 0]), (cd (Tryz.f99.body.getD .skip) [1, 1, 0, 1, 0, 0, 1, 1, 0]), (cd (Tryz.f99.body.getD .skip) [1, 1, 0, 1, 0, 0, 1, 1, 1])]) (N := (fun s w => B1 [s 5, s 10, s 11, s 12] w)) (N' := (fun s w => B1 [s 5, s 10, s 11, s 12] w)) (X := (fun i => (bif Nat.beq i 0 then (fun s w => s99_p1 K (s 5) w) else (fun _ _ => False)))) (X' := (fun i => (bif Nat.beq i 0 then (s99_p1_den K) else (fun _ _ => False)))) (R := s99_R K) (s := s) (w := w) (p := s99_p2 K B1 (s 5) (s 10) (s 11) (s 12) w) (q := s99_p2_den K (fun s w => B1 [s 5, s 10, s 11, s 12] w) s w) tr_id (fun i => (tr_bif (fun s w h => s99_p1_ok K s w @h) tr_id)) (by kernel_rfl) (by kernel_rfl) @h
def s99_p3_F (K : Value → World → Prop) (B1 : List Value → World → Prop) (l : List Value) (w : World) : Prop :=
  match l with
  | [t5, t10, t11, t12] => s99_p2 K B1 t5 t10 t11 t12 w
  | _ => False
theorem s99_p3_Fe {K : Value → World → Prop} {B1 : List Value → World → Prop} {t5 t10 t11 t12 : Value} {w : World} : s99_p3_F K B1 [t5, t10, t11, t12] w = s99_p2 K B1 t5 t10 t11 t12 w := by kernel_rfl
def s99_p3 (K : Value → World → Prop) (t5 t10 t11 t12 : Value) (w : World) : Prop :=
  LoopL (s99_p3_F K) [t5, t10, t11, t12] w
def s99_p3_den (K : Value → World → Prop) : (Nat → Value) → World → Prop := fun s w => LoopP (fun M1 s w => s99_p2_den K M1 s w) s w
theorem s99_p3_ok (K : Value → World → Prop) (s : Nat → Value) (w : World) (h : s99_p3 K (s 5) (s 10) (s 11) (s 12) w) : Tr (s99_p3_den K s w) :=
  tr_loop (G := fun N' s w => s99_p2_den K N' s w) (F := s99_p3_F K) (sel := fun s => [s 5, s 10, s 11, s 12]) (s := s) (w := w) (p := s99_p3 K (s 5) (s 10) (s 11) (s 12) w) (q := s99_p3_den K s w) (fun B s w h => s99_p2_ok K B s w @h) (by kernel_rfl) (by kernel_rfl) @h
def s99_p4 (K : Value → World → Prop) (t0 t1 : Value) (w : World) : Prop :=
  bsq 5 [(.int .u8 0)] 2 [(some (0, 1), (.int .u8 0)), (some (1, 1), t0)] (fun t9 w =>
  lnS t1 (fun t11 w =>
  s99_p3 K t9 t1 t11 (.int .i64 0) w) w) w
def s99_p4_den (K : Value → World → Prop) : (Nat → Value) → World → Prop := denL Tryz.prog [(cd (Tryz.f99.body.getD .skip) [0]), (cd (Tryz.f99.body.getD .skip) [1, 0]), (cd (Tryz.f99.body.getD .skip) [1, 1, 0, 0])] (s99_p3_den K) (fun i => (fun _ _ => False)) (s99_R K)
theorem s99_p4_ok (K : Value → World → Prop) (s : Nat → Value) (w : World) (h : s99_p4 K (s 0) (s 1) w) : Tr (s99_p4_den K s w) :=
  tr_simple (P := Tryz.prog) (codes := [(cd (Tryz.f99.body.getD .skip) [0]), (cd (Tryz.f99.body.getD .skip) [1, 0]), (cd (Tryz.f99.body.getD .skip) [1, 1, 0, 0])]) (N := (fun s w => s99_p3 K (s 5) (s 10) (s 11) (s 12) w)) (N' := (s99_p3_den K)) (X := (fun i => (fun _ _ => False))) (X' := (fun i => (fun _ _ => False))) (R := s99_R K) (s := s) (w := w) (p := s99_p4 K (s 0) (s 1) w) (q := s99_p4_den K s w) (fun s w h => s99_p3_ok K s w @h) (fun i => tr_id) (by kernel_rfl) (by kernel_rfl) @h
/-- the call, from the text -/
theorem c99 (t0 t1 : Value) {K : Value → World → Prop} {w : World} (h : s99_p4 K t0 t1 w) : cl Tryz.prog 99 #[t0, t1] K w :=
  calls_of_tr (c := (Tryz.f99.body.getD .skip)) (fn := Tryz.f99) (q := s99_p4_den K (st0 #[t0, t1]) w) Tryz.func99 (by kernel_rfl) (by kernel_rfl) (Nat.le_of_ble_eq_true (by kernel_rfl)) (by kernel_rfl) (by kernel_rfl) (s99_p4_ok K (st0 #[t0, t1]) w @h)

/-! ### function 100 : (*e2e.enginem.State).find -/
def s100_R (K : Value → World → Prop) (s : Nat → Value) (w : World) : Prop := retv Tryz.prog s Tryz.f100.results.toList (fun vs => K (pack vs) w) w
def s100_p1 (K : Value → World → Prop) (w : World) : Prop :=
  cl Tryz.prog 83 #[(.int .i64 22)] (fun t58 w =>
  K t58 w) w
def s100_p1_den (K : Value → World → Prop) : (Nat → Value) → World → Prop := denL Tryz.prog [(cd (Tryz.f100.body.getD .skip) [1, 1, 1, 1, 0]), (cd (Tryz.f100.body.getD .skip) [1, 1, 1, 1, 1])] (fun _ _ => False) (fun i => (fun _ _ => False)) (s100_R K)
theorem s100_p1_ok (K : Value → World → Prop) (s : Nat → Value) (w : World) (h : s100_p1 K w) : Tr (s100_p1_den K s w) :=
  tr_simple (P := Tryz.prog) (codes := [(cd (Tryz.f100.body.getD .skip) [1, 1, 1, 1, 0]), (cd (Tryz.f100.body.getD .skip) [1, 1, 1, 1, 1])]) (N := (fun _ _ => False)) (N' := (fun _ _ => False)) (X := (fun i => (fun _ _ => False))) (X' := (fun i => (fun _ _ => False))) (R := s100_R K) (s := s) (w := w) (p := s100_p1 K w) (q := s100_p1_den K s w) tr_id (fun i => tr_id) (by kernel_rfl) (by kernel_rfl) @h
def s100_p2 (K : Value → World → Prop) (B1 : List Value → World → Prop) (t0 t1 t2 t3 t4 t12 : Value) (w : World) : Prop :=
  cl Tryz.prog 154 #[t0, t12] (fun t36 w =>
  ifb t36
  (boI .geq t12 t4 (fun t41 w =>
  gd t41 true (fun K w => K t0 w) (fun t43 w =>
  gd t41 true (fun K w => K t2 w) (fun t44 w =>
  gd t41 true (fun K w => K t3 w) (fun t45 w =>
  gd t41 true (fun K w => K t1 w) (fun t46 w =>
  gd t41 true (fun K w => K t12 w) (fun t47 w =>
  gd t41 true (bdq [(.int .i64 0), (.int .i64 0)] [(some (0, 1), t46), (some (1, 1), t47)]) (fun t48 w =>
  gd t41 true (bsq 88 [(.int .i64 0), (.int .i64 0)] 1 [(some (0, 2), t48)]) (fun t49 w =>
  gd t41 true (bdq [(.int .i64 0), (.int .i64 0), (.int .i64 0), (.int .i64 0), (.int .i64 0), (.int .i64 0), (.slice none 0 0)] [(some (1, 1), (.int .i64 1)), (some (2, 1), t44), (some (3, 1), t45), (some (6, 1), t49)]) (fun t50 w =>
  gd t41 true (cl Tryz.prog 146 #[t43, t50]) (fun t51 w =>
  gd t41 true (cl Tryz.prog 147 #[t51]) (fun t52 w =>
  gd t41 true (boI .eql t52 (.int .i64 0)) (fun t53 w =>
  pk t41 t53 (.bool false) (fun t54 w =>
  ifb t54
  (bsq 3 [(.int .i64 0)] 1 [(some (0, 1), t12)] (fun t56 w =>
  cl Tryz.prog 99 #[(.int .u8 21), t56] (fun t57 w =>
  K t57 w) w) w)
  (boI .add t12 (.int .i64 1) (fun t38 w =>
  B1 [t0, t1, t2, t3, t4, t38] w) w)) w) w) w) w) w) w) w) w) w) w) w) w) w)
  (s100_p1 K w)) w
def s100_p2_den (K : Value → World → Prop) (M1 : (Nat → Value) → World → Prop) : (Nat → Value) → World → Prop := denL Tryz.prog [(cd (Tryz.f100.body.getD .skip) [1, 1, 1, 0, 1, 0, 0, 0, 0]), (cd (Tryz.f100.body.getD .skip) [1, 1, 1, 0, 1, 0, 0, 0, 1]), (cd (Tryz.f100.body.getD .skip) [1, 1, 1, 0, 1, 0, 0, 1, 0]), (cd (Tryz.f100.body.getD .skip) [1, 1, 1, 0, 1, 0, 0, 1, 1])] M1 (fun i => (bif Nat.beq i 0 then (s100_p1_den K) else (fun _ _ => False))) (s100_R K)
theorem s100_p2_ok (K : Value → World → Prop) (B1 : List Value → World → Prop) (s : Nat → Value) (w : World) (h : s100_p2 K B1 (s 0) (s 1) (s 2) (s 3) (s 4) (s 12) w) : Tr (s100_p2_den K (fun s w => B1 [s 0, s 1, s 2, s 3, s 4, s 12] w) s w) :=
  tr_simple (P := Tryz.prog) (codes := [(cd (Tryz.f100.body.getD .skip) [1, 1, 1, 0, 1, 0, 0, 0, 0]), (cd (Tryz.f100.body.getD .skip) [1, 1, 1, 0, 1, 0, 0, 0, 1]), (cd (Tryz.f100.body.getD .skip) [1, 1, 1, 0, 1, 0, 0, 1, 0]), (cd (Tryz.f100.body.getD .skip) [1, 1, 1, 0, 1, 0, 0, 1, 1])]) (N := (fun s w => B1 [s 0, s 1, s 2, s 3, s 4, s 12] w)) (N' := (fun s w => B1 [s 0, s 1, s 2, s 3, s 4, s 12] w)) (X := (fun i => (bif Nat.beq i 0 then (fun s w => s100_p1 K w) else (fun _ _ => False)))) (X' := (fun i => (bif Nat.beq i 0 then (s100_p1_den K) else (fun _ _ => False)))) (R := s100_R K) (s := s) (w := w) (p := s100_p2 K B1 (s 0) (s 1) (s 2) (s 3) (s 4) (s 12) w) (q := s100_p2_den K (fun s w => B1 [s 0, s 1, s 2, s 3, s 4, s 12] w) s w) tr_id (fun i => (tr_bif (fun s w h => s100_p1_ok K s w @h) tr_id)) (by kernel_rfl) (by kernel_rfl) @h
def s100_p3_F (K : Value → World → Prop) (B1 : List Value → World → Prop) (l : List Value) (w : World) : Prop :=
  match l with
  | [t0, t1, t2, t3, t4, t12] => s100_p2 K B1 t0 t1 t2 t3 t4 t12 w
  | _ => False
theorem s100_p3_Fe {K : Value → World → Prop} {B1 : List Value → World → Prop} {t0 t1 t2 t3 t4 t12 : Value} {w : World} : s100_p3_F K B1 [t0, t1, t2, t3, t4, t12] w = s100_p2 K B1 t0 t1 t2 t3 t4 t12 w := by kernel_rfl
def s100_p3 (K : Value → World → Prop) (t0 t1 t2 t3 t4 t12 : Value) (w : World) : Prop :=
  LoopL (s100_p3_F K) [t0, t1, t2, t3, t4, t12] w
def s100_p3_den (K : Value → World → Prop) : (Nat → Value) → World → Prop := fun s w => LoopP (fun M1 s w => s100_p2_den K M1 s w) s w
theorem s100_p3_ok (K : Value → World → Prop) (s : Nat → Value) (w : World) (h : s100_p3 K (s 0) (s 1) (s 2) (s 3) (s 4) (s 12) w) : Tr (s100_p3_den K s w) :=
  tr_loop (G := fun N' s w => s100_p2_den K N' s w) (F := s100_p3_F K) (sel := fun s => [s 0, s 1, s 2, s 3, s 4, s 12]) (s := s) (w := w) (p := s100_p3 K (s 0) (s 1) (s 2) (s 3) (s 4) (s 12) w) (q := s100_p3_den K s w) (fun B s w h => s100_p2_ok K B s w @h) (by kernel_rfl) (by kernel_rfl) @h
def s100_p4 (K : Value → World → Prop) (t0 t1 t2 t3 t4 : Value) (w : World) : Prop :=
  nck t0 (fun t15 w =>
  fd 0 t15 (fun t16 w =>
  fd 0 t16 (fun t17 w =>
  ld1 t17 (fun t18 w =>
  lnS t18 (fun t19 w =>
  boI .geq t1 t19 (fun t20 w =>
  ifb t20
  (cl Tryz.prog 83 #[(.int .i64 13)] (fun t21 w =>
  K t21 w) w)
  (cl Tryz.prog 144 #[t0, t2, t3] (fun t25 w =>
  boI .neq t25 (.int .i64 0) (fun t27 w =>
  ifb t27
  (cl Tryz.prog 83 #[t25] (fun t29 w =>
  K t29 w) w)
  (nck t0 (fun t31 w =>
  fd 14 t31 (fun t32 w =>
  ld1 t32 (fun t33 w =>
  s100_p3 K t0 t1 t2 t3 t4 t33 w) w) w) w)) w) w)) w) w) w) w) w) w
def s100_p4_den (K : Value → World → Prop) : (Nat → Value) → World → Prop := denL Tryz.prog [(cd (Tryz.f100.body.getD .skip) [0]), (cd (Tryz.f100.body.getD .skip) [1, 0, 0]), (cd (Tryz.f100.body.getD .skip) [1, 0, 1]), (cd (Tryz.f100.body.getD .skip) [1, 1, 0, 0]), (cd (Tryz.f100.body.getD .skip) [1, 1, 0, 1, 0]), (cd (Tryz.f100.body.getD .skip) [1, 1, 0, 1, 1]), (cd (Tryz.f100.body.getD .skip) [1, 1, 1, 0, 0])] (s100_p3_den K) (fun i => (fun _ _ => False)) (s100_R K)
theorem s100_p4_ok (K : Value → World → Prop) (s : Nat → Value) (w : World) (h : s100_p4 K (s 0) (s 1) (s 2) (s 3) (s 4) w) : Tr (s100_p4_den K s w) :=
  tr_simple (P := Tryz.prog) (codes := [(cd (Tryz.f100.body.getD .skip) [0]), (cd (Tryz.f100.body.getD .skip) [1, 0, 0]), (cd (Tryz.f100.body.getD .skip) [1, 0, 1]), (cd (Tryz.f100.body.getD .skip) [1, 1, 0, 0]), (cd (Tryz.f100.body.getD .skip) [1, 1, 0, 1, 0]), (cd (Tryz.f100.body.getD .skip) [1, 1, 0, 1, 1]), (cd (Tryz.f100.body.getD .skip) [1, 1, 1, 0, 0])]) (N := (fun s w => s100_p3 K (s 0) (s 1) (s 2) (s 3) (s 4) (s 12) w)) (N' := (s100_p3_den K)) (X := (fun i => (fun _ _ => False))) (X' := (fun i => (fun _ _ => False))) (R := s100_R K) (s := s) (w := w) (p := s100_p4 K (s 0) (s 1) (s 2) (s 3) (s 4) w) (q := s100_p4_den K s w) (fun s w h => s100_p3_ok K s w @h) (fun i => tr_id) (by kernel_rfl) (by kernel_rfl) @h
/-- the call, from the text -/
theorem c100 (t0 t1 t2 t3 t4 : Value) {K : Value → World → Prop} {w : World} (h : s100_p4 K t0 t1 t2 t3 t4 w) : cl Tryz.prog 100 #[t0, t1, t2, t3, t4] K w :=
  calls_of_tr (c := (Tryz.f100.body.getD .skip)) (fn := Tryz.f100) (q := s100_p4_den K (st0 #[t0, t1, t2, t3, t4]) w) Tryz.func100 (by kernel_rfl) (by kernel_rfl) (Nat.le_of_ble_eq_true (by kernel_rfl)) (by kernel_rfl) (by kernel_rfl) (s100_p4_ok K (st0 #[t0, t1, t2, t3, t4]) w @h)

/-! ### function 101 : (*e2e.enginem.State).quote -/
def s101_R (K : Value → World → Prop) (s : Nat → Value) (w : World) : Prop := retv Tryz.prog s Tryz.f101.results.toList (fun vs => K (pack vs) w) w
def s101_p1 (K : Value → World → Prop) (t9 : Value) (w : World) : Prop :=
  K t9 w
def s101_p1_den (K : Value → World → Prop) : (Nat → Value) → World → Prop := denL Tryz.prog [(cd (Tryz.f101.body.getD .skip) [1, 1, 1, 0]), (cd (Tryz.f101.body.getD .skip) [1, 1, 1, 1])] (fun _ _ => False) (fun i => (fun _ _ => False)) (s101_R K)
theorem s101_p1_ok (K : Value → World → Prop) (s : Nat → Value) (w : World) (h : s101_p1 K (s 9) w) : Tr (s101_p1_den K s w) :=
  tr_simple (P := Tryz.prog) (codes := [(cd (Tryz.f101.body.getD .skip) [1, 1, 1, 0]), (cd (Tryz.f101.body.getD .skip) [1, 1, 1, 1])]) (N := (fun _ _ => False)) (N' := (fun _ _ => False)) (X := (fun i => (fun _ _ => False))) (X' := (fun i => (fun _ _ => False))) (R := s101_R K) (s := s) (w := w) (p := s101_p1 K (s 9) w) (q := s101_p1_den K s w) tr_id (fun i => tr_id) (by kernel_rfl) (by kernel_rfl) @h
def s101_p2 (K : Value → World → Prop) (t0 t1 t2 t3 : Value) (w : World) : Prop :=
  cl Tryz.prog 149 #[t0] (fun t11 w =>
  cl Tryz.prog 86 #[t11, t1, t2, t3] (fun t15 w =>
  lnS t15 (fun t17 w =>
  boI .gtr t17 (.int .i64 1) (fun t18 w =>
  ifb t18
  (ixs 1 t15 (.int .i64 1) (fun t20 w =>
  st1 t20 (.int .u8 22) (fun w =>
  s101_p1 K t15 w) w) w)
  (s101_p1 K t15 w)) w) w) w) w
def s101_p2_den (K : Value → World → Prop) : (Nat → Value) → World → Prop := denL Tryz.prog [(cd (Tryz.f101.body.getD .skip) [0]), (cd (Tryz.f101.body.getD .skip) [1, 0]), (cd (Tryz.f101.body.getD .skip) [1, 1, 0, 0]), (cd (Tryz.f101.body.getD .skip) [1, 1, 0, 1])] (s101_p1_den K) (fun i => (fun _ _ => False)) (s101_R K)
theorem s101_p2_ok (K : Value → World → Prop) (s : Nat → Value) (w : World) (h : s101_p2 K (s 0) (s 1) (s 2) (s 3) w) : Tr (s101_p2_den K s w) :=
  tr_simple (P := Tryz.prog) (codes := [(cd (Tryz.f101.body.getD .skip) [0]), (cd (Tryz.f101.body.getD .skip) [1, 0]), (cd (Tryz.f101.body.getD .skip) [1, 1, 0, 0]), (cd (Tryz.f101.body.getD .skip) [1, 1, 0, 1])]) (N := (fun s w => s101_p1 K (s 9) w)) (N' := (s101_p1_den K)) (X := (fun i => (fun _ _ => False))) (X' := (fun i => (fun _ _ => False))) (R := s101_R K) (s := s) (w := w) (p := s101_p2 K (s 0) (s 1) (s 2) (s 3) w) (q := s101_p2_den K s w) (fun s w h => s101_p1_ok K s w @h) (fun i => tr_id) (by kernel_rfl) (by kernel_rfl) @h
/-- the call, from the text -/
theorem c101 (t0 t1 t2 t3 : Value) {K : Value → World → Prop} {w : World} (h : s101_p2 K t0 t1 t2 t3 w) : cl Tryz.prog 101 #[t0, t1, t2, t3] K w :=
  calls_of_tr (c := (Tryz.f101.body.getD .skip)) (fn := Tryz.f101) (q := s101_p2_den K (st0 #[t0, t1, t2, t3]) w) Tryz.func101 (by kernel_rfl) (by kernel_rfl) (Nat.le_of_ble_eq_true (by kernel_rfl)) (by kernel_rfl) (by kernel_rfl) (s101_p2_ok K (st0 #[t0, t1, t2, t3]) w @h)

/-! ### function 102 : (*e2e.enginem.State).count -/
def s102_R (K : Value → World → Prop) (s : Nat → Value) (w : World) : Prop := retv Tryz.prog s Tryz.f102.results.toList (fun vs => K (pack vs) w) w
def s102_p1 (K : Value → World → Prop) (t3 : Value) (w : World) : Prop :=
  cl Tryz.prog 99 #[(.int .u8 23), t3] (fun t34 w =>
  K t34 w) w
def s102_p1_den (K : Value → World → Prop) : (Nat → Value) → World → Prop := denL Tryz.prog [(cd (Tryz.f102.body.getD .skip) [1, 1, 1, 0]), (cd (Tryz.f102.body.getD .skip) [1, 1, 1, 1])] (fun _ _ => False) (fun i => (fun _ _ => False)) (s102_R K)
theorem s102_p1_ok (K : Value → World → Prop) (s : Nat → Value) (w : World) (h : s102_p1 K (s 3) w) : Tr (s102_p1_den K s w) :=
  tr_simple (P := Tryz.prog) (codes := [(cd (Tryz.f102.body.getD .skip) [1, 1, 1, 0]), (cd (Tryz.f102.body.getD .skip) [1, 1, 1, 1])]) (N := (fun _ _ => False)) (N' := (fun _ _ => False)) (X := (fun i => (fun _ _ => False))) (X' := (fun i => (fun _ _ => False))) (R := s102_R K) (s := s) (w := w) (p := s102_p1 K (s 3) w) (q := s102_p1_den K s w) tr_id (fun i => tr_id) (by kernel_rfl) (by kernel_rfl) @h
def s102_p2 (K : Value → World → Prop) (B1 : List Value → World → Prop) (t0 t3 t4 : Value) (w : World) : Prop :=
  boI .add t4 (.int .i64 1) (fun t12 w =>
  B1 [t0, t3, t12] w) w
def s102_p2_den (K : Value → World → Prop) (M1 : (Nat → Value) → World → Prop) : (Nat → Value) → World → Prop := denL Tryz.prog [(cd (Tryz.f102.body.getD .skip) [1, 1, 0, 1, 0, 0, 1, 1])] M1 (fun i => (bif Nat.beq i 0 then (s102_p1_den K) else (fun _ _ => False))) (s102_R K)
theorem s102_p2_ok (K : Value → World → Prop) (B1 : List Value → World → Prop) (s : Nat → Value) (w : World) (h : s102_p2 K B1 (s 0) (s 3) (s 4) w) : Tr (s102_p2_den K (fun s w => B1 [s 0, s 3, s 4] w) s w) :=
  tr_simple (P := Tryz.prog) (codes := [(cd (Tryz.f102.body.getD .skip) [1, 1, 0, 1, 0, 0, 1, 1])]) (N := (fun s w => B1 [s 0, s 3, s 4] w)) (N' := (fun s w => B1 [s 0, s 3, s 4] w)) (X := (fun i => (bif Nat.beq i 0 then (fun s w => s102_p1 K (s 3) w) else (fun _ _ => False)))) (X' := (fun i => (bif Nat.beq i 0 then (s102_p1_den K) else (fun _ _ => False)))) (R := s102_R K) (s := s) (w := w) (p := s102_p2 K B1 (s 0) (s 3) (s 4) w) (q := s102_p2_den K (fun s w => B1 [s 0, s 3, s 4] w) s w) tr_id (fun i => (tr_bif (fun s w h => s102_p1_ok K s w @h) tr_id)) (by kernel_rfl) (by kernel_rfl) @h
def s102_p3 (K : Value → World → Prop) (B1 : List Value → World → Prop) (t0 t3 t4 t5 : Value) (w : World) : Prop :=
  bsq 3 [(.int .i64 0)] 1 [(some (0, 1), t5)] (fun t31 w =>
  apq 3 [(.int .i64 0)] 8 t3 t31 (fun t32 w =>
  s102_p2 K B1 t0 t32 t4 w) w) w
def s102_p3_den (K : Value → World → Prop) (M1 : (Nat → Value) → World → Prop) : (Nat → Value) → World → Prop := denL Tryz.prog [(cd (Tryz.f102.body.getD .skip) [1, 1, 0, 1, 0, 0, 1, 0, 0, 1, 1])] (s102_p2_den K M1) (fun i => (bif Nat.beq i 1 then (s102_p2_den K M1) else (bif Nat.beq i 0 then (s102_p1_den K) else (fun _ _ => False)))) (s102_R K)
theorem s102_p3_ok (K : Value → World → Prop) (B1 : List Value → World → Prop) (s : Nat → Value) (w : World) (h : s102_p3 K B1 (s 0) (s 3) (s 4) (s 5) w) : Tr (s102_p3_den K (fun s w => B1 [s 0, s 3, s 4] w) s w) :=
  tr_simple (P := Tryz.prog) (codes := [(cd (Tryz.f102.body.getD .skip) [1, 1, 0, 1, 0, 0, 1, 0, 0, 1, 1])]) (N := (fun s w => s102_p2 K B1 (s 0) (s 3) (s 4) w)) (N' := (s102_p2_den K (fun s w => B1 [s 0, s 3, s 4] w))) (X := (fun i => (bif Nat.beq i 1 then (fun s w => s102_p2 K B1 (s 0) (s 3) (s 4) w) else (bif Nat.beq i 0 then (fun s w => s102_p1 K (s 3) w) else (fun _ _ => False))))) (X' := (fun i => (bif Nat.beq i 1 then (s102_p2_den K (fun s w => B1 [s 0, s 3, s 4] w)) else (bif Nat.beq i 0 then (s102_p1_den K) else (fun _ _ => False))))) (R := s102_R K) (s := s) (w := w) (p := s102_p3 K B1 (s 0) (s 3) (s 4) (s 5) w) (q := s102_p3_den K (fun s w => B1 [s 0, s 3, s 4] w) s w) (fun s w h => s102_p2_ok K B1 s w @h) (fun i => (tr_bif (fun s w h => s102_p2_ok K B1 s w @h) (tr_bif (fun s w h => s102_p1_ok K s w @h) tr_id))) (by kernel_rfl) (by kernel_rfl) @h
def s102_p4 (K : Value → World → Prop) (B1 : List Value → World → Prop) (B2 : List Value → World → Prop) (t0 t3 t4 t5 t16 t17 t18 : Value) (w : World) : Prop :=
  boI .add t18 (.int .i64 1) (fun t28 w =>
  B2 [t0, t3, t4, t5, t16, t17, t28] w) w
def s102_p4_den (K : Value → World → Prop) (M1 : (Nat → Value) → World → Prop) (M2 : (Nat → Value) → World → Prop) : (Nat → Value) → World → Prop := denL Tryz.prog [(cd (Tryz.f102.body.getD .skip) [1, 1, 0, 1, 0, 0, 1, 0, 0, 1, 0, 1, 0, 0, 1, 1, 1])] M2 (fun i => (bif Nat.beq i 2 then (s102_p3_den K M1) else (bif Nat.beq i 1 then (s102_p2_den K M1) else (bif Nat.beq i 0 then (s102_p1_den K) else (fun _ _ => False))))) (s102_R K)
theorem s102_p4_ok (K : Value → World → Prop) (B1 : List Value → World → Prop) (B2 : List Value → World → Prop) (s : Nat → Value) (w : World) (h : s102_p4 K B1 B2 (s 0) (s 3) (s 4) (s 5) (s 16) (s 17) (s 18) w) : Tr (s102_p4_den K (fun s w => B1 [s 0, s 3, s 4] w) (fun s w => B2 [s 0, s 3, s 4, s 5, s 16, s 17, s 18] w) s w) :=
  tr_simple (P := Tryz.prog) (codes := [(cd (Tryz.f102.body.getD .skip) [1, 1, 0, 1, 0, 0, 1, 0, 0, 1, 0, 1, 0, 0, 1, 1, 1])]) (N := (fun s w => B2 [s 0, s 3, s 4, s 5, s 16, s 17, s 18] w)) (N' := (fun s w => B2 [s 0, s 3, s 4, s 5, s 16, s 17, s 18] w)) (X := (fun i => (bif Nat.beq i 2 then (fun s w => s102_p3 K B1 (s 0) (s 3) (s 4) (s 5) w) else (bif Nat.beq i 1 then (fun s w => s102_p2 K B1 (s 0) (s 3) (s 4) w) else (bif Nat.beq i 0 then (fun s w => s102_p1 K (s 3) w) else (fun _ _ => False)))))) (X' := (fun i => (bif Nat.beq i 2 then (s102_p3_den K (fun s w => B1 [s 0, s 3, s 4] w)) else (bif Nat.beq i 1 then (s102_p2_den K (fun s w => B1 [s 0, s 3, s 4] w)) else (bif Nat.beq i 0 then (s102_p1_den K) else (fun _ _ => False)))))) (R := s102_R K) (s := s) (w := w) (p := s102_p4 K B1 B2 (s 0) (s 3) (s 4) (s 5) (s 16) (s 17) (s 18) w) (q := s102_p4_den K (fun s w => B1 [s 0, s 3, s 4] w) (fun s w => B2 [s 0, s 3, s 4, s 5, s 16, s 17, s 18] w) s w) tr_id (fun i => (tr_bif (fun s w h => s102_p3_ok K B1 s w @h) (tr_bif (fun s w h => s102_p2_ok K B1 s w @h) (tr_bif (fun s w h => s102_p1_ok K s w @h) tr_id)))) (by kernel_rfl) (by kernel_rfl) @h
def s102_p5 (K : Value → World → Prop) (B1 : List Value → World → Prop) (B2 : List Value → World → Prop) (t0 t3 t4 t5 t16 t17 t18 : Value) (w : World) : Prop :=
  boI .lss t18 t17 (fun t19 w =>
  ifb t19
  (ixs 7 t16 t18 (fun t20 w =>
  ldn 7 t20 (fun t21 w =>
  nw 85 #[(.int .i64 0), (.int .i64 0), (.int .i64 0), (.int .i64 0), (.int .i64 0), (.int .i64 0), (.slice none 0 0)] (fun t7 w =>
  stn 7 t7 t21 (fun w =>
  fd 1 t7 (fun t22 w =>
  ld1 t22 (fun t23 w =>
  boI .eql t23 t4 (fun t25 w =>
  ifb t25
  (boI .add t5 (.int .i64 1) (fun t27 w =>
  s102_p4 K B1 B2 t0 t3 t4 t27 t16 t17 t18 w) w)
  (s102_p4 K B1 B2 t0 t3 t4 t5 t16 t17 t18 w)) w) w) w) w) w) w) w)
  (s102_p3 K B1 t0 t3 t4 t5 w)) w
def s102_p5_den (K : Value → World → Prop) (M1 : (Nat → Value) → World → Prop) (M2 : (Nat → Value) → World → Prop) : (Nat → Value) → World → Prop := denL Tryz.prog [(cd (Tryz.f102.body.getD .skip) [1, 1, 0, 1, 0, 0, 1, 0, 0, 1, 0, 1, 0, 0, 0]), (cd (Tryz.f102.body.getD .skip) [1, 1, 0, 1, 0, 0, 1, 0, 0, 1, 0, 1, 0, 0, 1, 0]), (cd (Tryz.f102.body.getD .skip) [1, 1, 0, 1, 0, 0, 1, 0, 0, 1, 0, 1, 0, 0, 1, 1, 0])] (s102_p4_den K M1 M2) (fun i => (bif Nat.beq i 2 then (s102_p3_den K M1) else (bif Nat.beq i 1 then (s102_p2_den K M1) else (bif Nat.beq i 0 then (s102_p1_den K) else (fun _ _ => False))))) (s102_R K)
theorem s102_p5_ok (K : Value → World → Prop) (B1 : List Value → World → Prop) (B2 : List Value → World → Prop) (s : Nat → Value) (w : World) (h : s102_p5 K B1 B2 (s 0) (s 3) (s 4) (s 5) (s 16) (s 17) (s 18) w) : Tr (s102_p5_den K (fun s w => B1 [s 0, s 3, s 4] w) (fun s w => B2 [s 0, s 3, s 4, s 5, s 16, s 17, s 18] w) s w) :=
  tr_simple (P := Tryz.prog) (codes := [(cd (Tryz.f102.body.getD .skip) [1, 1, 0, 1, 0, 0, 1, 0, 0, 1, 0, 1, 0, 0, 0]), (cd (Tryz.f102.body.getD .skip) [1, 1, 0, 1, 0, 0, 1, 0, 0, 1, 0, 1, 0, 0, 1, 0]), (cd (Tryz.f102.body.getD .skip) [1, 1, 0, 1, 0, 0, 1, 0, 0, 1, 0, 1, 0, 0, 1, 1, 0])]) (N := (fun s w => s102_p4 K B1 B2 (s 0) (s 3) (s 4) (s 5) (s 16) (s 17) (s 18) w)) (N' := (s102_p4_den K (fun s w => B1 [s 0, s 3, s 4] w) (fun s w => B2 [s 0, s 3, s 4, s 5, s 16, s 17, s 18] w))) (X := (fun i => (bif Nat.beq i 2 then (fun s w => s102_p3 K B1 (s 0) (s 3) (s 4) (s 5) w) else (bif Nat.beq i 1 then (fun s w => s102_p2 K B1 (s 0) (s 3) (s 4) w) else (bif Nat.beq i 0 then (fun s w => s102_p1 K (s 3) w) else (fun _ _ => False)))))) (X' := (fun i => (bif Nat.beq i 2 then (s102_p3_den K (fun s w => B1 [s 0, s 3, s 4] w)) else (bif Nat.beq i 1 then (s102_p2_den K (fun s w => B1 [s 0, s 3, s 4] w)) else (bif Nat.beq i 0 then (s102_p1_den K) else (fun _ _ => False)))))) (R := s102_R K) (s := s) (w := w) (p := s102_p5 K B1 B2 (s 0) (s 3) (s 4) (s 5) (s 16) (s 17) (s 18) w) (q := s102_p5_den K (fun s w => B1 [s 0, s 3, s 4] w) (fun s w => B2 [s 0, s 3, s 4, s 5, s 16, s 17, s 18] w) s w) (fun s w h => s102_p4_ok K B1 B2 s w @h) (fun i => (tr_bif (fun s w h => s102_p3_ok K B1 s w @h) (tr_bif (fun s w h => s102_p2_ok K B1 s w @h) (tr_bif (fun s w h => s102_p1_ok K s w @h) tr_id)))) (by kernel_rfl) (by kernel_rfl) @h
def s102_p6_F (K : Value → World → Prop) (B1 : List Value → World → Prop) (B2 : List Value → World → Prop) (l : List Value) (w : World) : Prop :=
  match l with
  | [t0, t3, t4, t5, t16, t17, t18] => s102_p5 K B1 B2 t0 t3 t4 t5 t16 t17 t18 w
  | _ => False
theorem s102_p6_Fe {K : Value → World → Prop} {B1 : List Value → World → Prop} {B2 : List Value → World → Prop} {t0 t3 t4 t5 t16 t17 t18 : Value} {w : World} : s102_p6_F K B1 B2 [t0, t3, t4, t5, t16, t17, t18] w = s102_p5 K B1 B2 t0 t3 t4 t5 t16 t17 t18 w := by kernel_rfl
def s102_p6 (K : Value → World → Prop) (B1 : List Value → World → Prop) (t0 t3 t4 t5 t16 t17 t18 : Value) (w : World) : Prop :=
  LoopL (s102_p6_F K B1) [t0, t3, t4, t5, t16, t17, t18] w
def s102_p6_den (K : Value → World → Prop) (M1 : (Nat → Value) → World → Prop) : (Nat → Value) → World → Prop := fun s w => LoopP (fun M2 s w => s102_p5_den K M1 M2 s w) s w
theorem s102_p6_ok (K : Value → World → Prop) (B1 : List Value → World → Prop) (s : Nat → Value) (w : World) (h : s102_p6 K B1 (s 0) (s 3) (s 4) (s 5) (s 16) (s 17) (s 18) w) : Tr (s102_p6_den K (fun s w => B1 [s 0, s 3, s 4] w) s w) :=
  tr_loop (G := fun N' s w => s102_p5_den K (fun s w => B1 [s 0, s 3, s 4] w) N' s w) (F := s102_p6_F K B1) (sel := fun s => [s 0, s 3, s 4, s 5, s 16, s 17, s 18]) (s := s) (w := w) (p := s102_p6 K B1 (s 0) (s 3) (s 4) (s 5) (s 16) (s 17) (s 18) w) (q := s102_p6_den K (fun s w => B1 [s 0, s 3, s 4] w) s w) (fun B s w h => s102_p5_ok K B1 B s w @h) (by kernel_rfl) (by kernel_rfl) @h
def s102_p7 (K : Value → World → Prop) (B1 : List Value → World → Prop) (t0 t3 t4 : Value) (w : World) : Prop :=
  nck t0 (fun t14 w =>
  fd 15 t14 (fun t15 w =>
  ld1 t15 (fun t16 w =>
  lnS t16 (fun t17 w =>
  s102_p6 K B1 t0 t3 t4 (.int .i64 0) t16 t17 (.int .i64 0) w) w) w) w) w
def s102_p7_den (K : Value → World → Prop) (M1 : (Nat → Value) → World → Prop) : (Nat → Value) → World → Prop := denL Tryz.prog [(cd (Tryz.f102.body.getD .skip) [1, 1, 0, 1, 0, 0, 1, 0, 0, 0]), (cd (Tryz.f102.body.getD .skip) [1, 1, 0, 1, 0, 0, 1, 0, 0, 1, 0, 0])] (s102_p6_den K M1) (fun i => (bif Nat.beq i 1 then (s102_p2_den K M1) else (bif Nat.beq i 0 then (s102_p1_den K) else (fun _ _ => False)))) (s102_R K)
theorem s102_p7_ok (K : Value → World → Prop) (B1 : List Value → World → Prop) (s : Nat → Value) (w : World) (h : s102_p7 K B1 (s 0) (s 3) (s 4) w) : Tr (s102_p7_den K (fun s w => B1 [s 0, s 3, s 4] w) s w) :=
  tr_simple (P := Tryz.prog) (codes := [(cd (Tryz.f102.body.getD .skip) [1, 1, 0, 1, 0, 0, 1, 0, 0, 0]), (cd (Tryz.f102.body.getD .skip) [1, 1, 0, 1, 0, 0, 1, 0, 0, 1, 0, 0])]) (N := (fun s w => s102_p6 K B1 (s 0) (s 3) (s 4) (s 5) (s 16) (s 17) (s 18) w)) (N' := (s102_p6_den K (fun s w => B1 [s 0, s 3, s 4] w))) (X := (fun i => (bif Nat.beq i 1 then (fun s w => s102_p2 K B1 (s 0) (s 3) (s 4) w) else (bif Nat.beq i 0 then (fun s w => s102_p1 K (s 3) w) else (fun _ _ => False))))) (X' := (fun i => (bif Nat.beq i 1 then (s102_p2_den K (fun s w => B1 [s 0, s 3, s 4] w)) else (bif Nat.beq i 0 then (s102_p1_den K) else (fun _ _ => False))))) (R := s102_R K) (s := s) (w := w) (p := s102_p7 K B1 (s 0) (s 3) (s 4) w) (q := s102_p7_den K (fun s w => B1 [s 0, s 3, s 4] w) s w) (fun s w h => s102_p6_ok K B1 s w @h) (fun i => (tr_bif (fun s w h => s102_p2_ok K B1 s w @h) (tr_bif (fun s w h => s102_p1_ok K s w @h) tr_id))) (by kernel_rfl) (by kernel_rfl) @h
def s102_p8 (K : Value → World → Prop) (B1 : List Value → World → Prop) (t0 t3 t4 : Value) (w : World) : Prop :=
  boI .lss t4 (.int .i64 10) (fun t10 w =>
  ifb t10
  (s102_p7 K B1 t0 t3 t4 w)
  (s102_p1 K t3 w)) w
def s102_p8_den (K : Value → World → Prop) (M1 : (Nat → Value) → World → Prop) : (Nat → Value) → World → Prop := denL Tryz.prog [(cd (Tryz.f102.body.getD .skip) [1, 1, 0, 1, 0, 0, 0, 0]), (cd (Tryz.f102.body.getD .skip) [1, 1, 0, 1, 0, 0, 0, 1])] (s102_p7_den K M1) (fun i => (bif Nat.beq i 0 then (s102_p1_den K) else (fun _ _ => False))) (s102_R K)
theorem s102_p8_ok (K : Value → World → Prop) (B1 : List Value → World → Prop) (s : Nat → Value) (w : World) (h : s102_p8 K B1 (s 0) (s 3) (s 4) w) : Tr (s102_p8_den K (fun s w => B1 [s 0, s 3, s 4] w) s w) :=
  tr_simple (P := Tryz.prog) (codes := [(cd (Tryz.f102.body.getD .skip) [1, 1, 0, 1, 0, 0, 0, 0]), (cd (Tryz.f102.body.getD .skip) [1, 1, 0, 1, 0, 0, 0, 1])]) (N := (fun s w => s102_p7 K B1 (s 0) (s 3) (s 4) w)) (N' := (s102_p7_den K (fun s w => B1 [s 0, s 3, s 4] w))) (X := (fun i => (bif Nat.beq i 0 then (fun s w => s102_p1 K (s 3) w) else (fun _ _ => False)))) (X' := (fun i => (bif Nat.beq i 0 then (s102_p1_den K) else (fun _ _ => False)))) (R := s102_R K) (s := s) (w := w) (p := s102_p8 K B1 (s 0) (s 3) (s 4) w) (q := s102_p8_den K (fun s w => B1 [s 0, s 3, s 4] w) s w) (fun s w h => s102_p7_ok K B1 s w @h) (fun i => (tr_bif (fun s w h => s102_p1_ok K s w @h) tr_id)) (by kernel_rfl) (by kernel_rfl) @h
def s102_p9_F (K : Value → World → Prop) (B1 : List Value → World → Prop) (l : List Value) (w : World) : Prop :=
  match l with
  | [t0, t3, t4] => s102_p8 K B1 t0 t3 t4 w
  | _ => False
theorem s102_p9_Fe {K : Value → World → Prop} {B1 : List Value → World → Prop} {t0 t3 t4 : Value} {w : World} : s102_p9_F K B1 [t0, t3, t4] w = s102_p8 K B1 t0 t3 t4 w := by kernel_rfl
def s102_p9 (K : Value → World → Prop) (t0 t3 t4 : Value) (w : World) : Prop :=
  LoopL (s102_p9_F K) [t0, t3, t4] w
def s102_p9_den (K : Value → World → Prop) : (Nat → Value) → World → Prop := fun s w => LoopP (fun M1 s w => s102_p8_den K M1 s w) s w
theorem s102_p9_ok (K : Value → World → Prop) (s : Nat → Value) (w : World) (h : s102_p9 K (s 0) (s 3) (s 4) w) : Tr (s102_p9_den K s w) :=
  tr_loop (G := fun N' s w => s102_p8_den K N' s w) (F := s102_p9_F K) (sel := fun s => [s 0, s 3, s 4]) (s := s) (w := w) (p := s102_p9 K (s 0) (s 3) (s 4) w) (q := s102_p9_den K s w) (fun B s w h => s102_p8_ok K B s w @h) (by kernel_rfl) (by kernel_rfl) @h
def s102_p10 (K : Value → World → Prop) (t0 : Value) (w : World) : Prop :=
  bsq 3 [(.int .i64 0)] 0 [] (fun t8 w =>
  s102_p9 K t0 t8 (.int .i64 1) w) w
def s102_p10_den (K : Value → World → Prop) : (Nat → Value) → World → Prop := denL Tryz.prog [(cd (Tryz.f102.body.getD .skip) [0]), (cd (Tryz.f102.body.getD .skip) [1, 0]), (cd (Tryz.f102.body.getD .skip) [1, 1, 0, 0])] (s102_p9_den K) (fun i => (fun _ _ => False)) (s102_R K)
theorem s102_p10_ok (K : Value → World → Prop) (s : Nat → Value) (w : World) (h : s102_p10 K (s 0) w) : Tr (s102_p10_den K s w) :=
  tr_simple (P := Tryz.prog) (codes := [(cd (Tryz.f102.body.getD .skip) [0]), (cd (Tryz.f102.body.getD .skip) [1, 0]), (cd (Tryz.f102.body.getD .skip) [1, 1, 0, 0])]) (N := (fun s w => s102_p9 K (s 0) (s 3) (s 4) w)) (N' := (s102_p9_den K)) (X := (fun i => (fun _ _ => False))) (X' := (fun i => (fun _ _ => False))) (R := s102_R K) (s := s) (w := w) (p := s102_p10 K (s 0) w) (q := s102_p10_den K s w) (fun s w h => s102_p9_ok K s w @h) (fun i => tr_id) (by kernel_rfl) (by kernel_rfl) @h
/-- the call, from the text -/
theorem c102 (t0 : Value) {K : Value → World → Prop} {w : World} (h : s102_p10 K t0 w) : cl Tryz.prog 102 #[t0] K w :=
  calls_of_tr (c := (Tryz.f102.body.getD .skip)) (fn := Tryz.f102) (q := s102_p10_den K (st0 #[t0]) w) Tryz.func102 (by kernel_rfl) (by kernel_rfl) (Nat.le_of_ble_eq_true (by kernel_rfl)) (by kernel_rfl) (by kernel_rfl) (s102_p10_ok K (st0 #[t0]) w @h)

/-! ### function 103 : (*e2e.enginem.State).place -/
def s103_R (K : Value → World → Prop) (s : Nat → Value) (w : World) : Prop := retv Tryz.prog s Tryz.f103.results.toList (fun vs => K (pack vs) w) w
def s103_p1 (K : Value → World → Prop) (t5 t6 t7 : Value) (w : World) : Prop :=
  bsq 3 [(.int .i64 0)] 3 [(some (0, 1), t5), (some (1, 1), t6), (some (2, 1), t7)] (fun t68 w =>
  cl Tryz.prog 99 #[(.int .u8 24), t68] (fun t69 w =>
  K t69 w) w) w
def s103_p1_den (K : Value → World → Prop) : (Nat → Value) → World → Prop := denL Tryz.prog [(cd (Tryz.f103.body.getD .skip) [1, 1, 1, 1, 1, 1, 0]), (cd (Tryz.f103.body.getD .skip) [1, 1, 1, 1, 1, 1, 1])] (fun _ _ => False) (fun i => (fun _ _ => False)) (s103_R K)
theorem s103_p1_ok (K : Value → World → Prop) (s : Nat → Value) (w : World) (h : s103_p1 K (s 5) (s 6) (s 7) w) : Tr (s103_p1_den K s w) :=
  tr_simple (P := Tryz.prog) (codes := [(cd (Tryz.f103.body.getD .skip) [1, 1, 1, 1, 1, 1, 0]), (cd (Tryz.f103.body.getD .skip) [1, 1, 1, 1, 1, 1, 1])]) (N := (fun _ _ => False)) (N' := (fun _ _ => False)) (X := (fun i => (fun _ _ => False))) (X' := (fun i => (fun _ _ => False))) (R := s103_R K) (s := s) (w := w) (p := s103_p1 K (s 5) (s 6) (s 7) w) (q := s103_p1_den K s w) tr_id (fun i => tr_id) (by kernel_rfl) (by kernel_rfl) @h
def s103_p2 (K : Value → World → Prop) (B1 : List Value → World → Prop) (t0 t1 t5 t6 t7 t42 t43 t44 : Value) (w : World) : Prop :=
  boI .add t44 (.int .i64 1) (fun t64 w =>
  B1 [t0, t1, t5, t6, t7, t42, t43, t64] w) w
def s103_p2_den (K : Value → World → Prop) (M1 : (Nat → Value) → World → Prop) : (Nat → Value) → World → Prop := denL Tryz.prog [(cd (Tryz.f103.body.getD .skip) [1, 1, 1, 1, 1, 0, 1, 0, 0, 1, 1, 1])] M1 (fun i => (bif Nat.beq i 0 then (s103_p1_den K) else (fun _ _ => False))) (s103_R K)
theorem s103_p2_ok (K : Value → World → Prop) (B1 : List Value → World → Prop) (s : Nat → Value) (w : World) (h : s103_p2 K B1 (s 0) (s 1) (s 5) (s 6) (s 7) (s 42) (s 43) (s 44) w) : Tr (s103_p2_den K (fun s w => B1 [s 0, s 1, s 5, s 6, s 7, s 42, s 43, s 44] w) s w) :=
  tr_simple (P := Tryz.prog) (codes := [(cd (Tryz.f103.body.getD .skip) [1, 1, 1, 1, 1, 0, 1, 0, 0, 1, 1, 1])]) (N := (fun s w => B1 [s 0, s 1, s 5, s 6, s 7, s 42, s 43, s 44] w)) (N' := (fun s w => B1 [s 0, s 1, s 5, s 6, s 7, s 42, s 43, s 44] w)) (X := (fun i => (bif Nat.beq i 0 then (fun s w => s103_p1 K (s 5) (s 6) (s 7) w) else (fun _ _ => False)))) (X' := (fun i => (bif Nat.beq i 0 then (s103_p1_den K) else (fun _ _ => False)))) (R := s103_R K) (s := s) (w := w) (p := s103_p2 K B1 (s 0) (s 1) (s 5) (s 6) (s 7) (s 42) (s 43) (s 44) w) (q := s103_p2_den K (fun s w => B1 [s 0, s 1, s 5, s 6, s 7, s 42, s 43, s 44] w) s w) tr_id (fun i => (tr_bif (fun s w h => s103_p1_ok K s w @h) tr_id)) (by kernel_rfl) (by kernel_rfl) @h
def s103_p3 (K : Value → World → Prop) (B1 : List Value → World → Prop) (t0 t1 t5 t6 t7 t42 t43 t44 : Value) (w : World) : Prop :=
  boI .lss t44 t43 (fun t45 w =>
  ifb t45
  (ixs 1 t42 t44 (fun t46 w =>
  ld1 t46 (fun t47 w =>
  boI .lss t47 t1 (fun t50 w =>
  ifb t50
  (boI .add t6 (.int .i64 1) (fun t52 w =>
  nck t0 (fun t55 w =>
  fd 15 t55 (fun t56 w =>
  ld1 t56 (fun t57 w =>
  boI .sub t47 (.int .i64 1) (fun t59 w =>
  ixs 7 t57 t59 (fun t60 w =>
  fd 3 t60 (fun t61 w =>
  ld1 t61 (fun t62 w =>
  boI .add t7 t62 (fun t63 w =>
  s103_p2 K B1 t0 t1 t5 t52 t63 t42 t43 t44 w) w) w) w) w) w) w) w) w) w)
  (s103_p2 K B1 t0 t1 t5 t6 t7 t42 t43 t44 w)) w) w) w)
  (s103_p1 K t5 t6 t7 w)) w
def s103_p3_den (K : Value → World → Prop) (M1 : (Nat → Value) → World → Prop) : (Nat → Value) → World → Prop := denL Tryz.prog [(cd (Tryz.f103.body.getD .skip) [1, 1, 1, 1, 1, 0, 1, 0, 0, 0]), (cd (Tryz.f103.body.getD .skip) [1, 1, 1, 1, 1, 0, 1, 0, 0, 1, 0]), (cd (Tryz.f103.body.getD .skip) [1, 1, 1, 1, 1, 0, 1, 0, 0, 1, 1, 0])] (s103_p2_den K M1) (fun i => (bif Nat.beq i 0 then (s103_p1_den K) else (fun _ _ => False))) (s103_R K)
theorem s103_p3_ok (K : Value → World → Prop) (B1 : List Value → World → Prop) (s : Nat → Value) (w : World) (h : s103_p3 K B1 (s 0) (s 1) (s 5) (s 6) (s 7) (s 42) (s 43) (s 44) w) : Tr (s103_p3_den K (fun s w => B1 [s 0, s 1, s 5, s 6, s 7, s 42, s 43, s 44] w) s w) :=
  tr_simple (P := Tryz.prog) (codes := [(cd (Tryz.f103.body.getD .skip) [1, 1, 1, 1, 1, 0, 1, 0, 0, 0]), (cd (Tryz.f103.body.getD .skip) [1, 1, 1, 1, 1, 0, 1, 0, 0, 1, 0]), (cd (Tryz.f103.body.getD .skip) [1, 1, 1, 1, 1, 0, 1, 0, 0, 1, 1, 0])]) (N := (fun s w => s103_p2 K B1 (s 0) (s 1) (s 5) (s 6) (s 7) (s 42) (s 43) (s 44) w)) (N' := (s103_p2_den K (fun s w => B1 [s 0, s 1, s 5, s 6, s 7, s 42, s 43, s 44] w))) (X := (fun i => (bif Nat.beq i 0 then (fun s w => s103_p1 K (s 5) (s 6) (s 7) w) else (fun _ _ => False)))) (X' := (fun i => (bif Nat.beq i 0 then (s103_p1_den K) else (fun _ _ => False)))) (R := s103_R K) (s := s) (w := w) (p := s103_p3 K B1 (s 0) (s 1) (s 5) (s 6) (s 7) (s 42) (s 43) (s 44) w) (q := s103_p3_den K (fun s w => B1 [s 0, s 1, s 5, s 6, s 7, s 42, s 43, s 44] w) s w) (fun s w h => s103_p2_ok K B1 s w @h) (fun i => (tr_bif (fun s w h => s103_p1_ok K s w @h) tr_id)) (by kernel_rfl) (by kernel_rfl) @h
def s103_p4_F (K : Value → World → Prop) (B1 : List Value → World → Prop) (l : List Value) (w : World) : Prop :=
  match l with
  | [t0, t1, t5, t6, t7, t42, t43, t44] => s103_p3 K B1 t0 t1 t5 t6 t7 t42 t43 t44 w
  | _ => False
theorem s103_p4_Fe {K : Value → World → Prop} {B1 : List Value → World → Prop} {t0 t1 t5 t6 t7 t42 t43 t44 : Value} {w : World} : s103_p4_F K B1 [t0, t1, t5, t6, t7, t42, t43, t44] w = s103_p3 K B1 t0 t1 t5 t6 t7 t42 t43 t44 w := by kernel_rfl
def s103_p4 (K : Value → World → Prop) (t0 t1 t5 t6 t7 t42 t43 t44 : Value) (w : World) : Prop :=
  LoopL (s103_p4_F K) [t0, t1, t5, t6, t7, t42, t43, t44] w
def s103_p4_den (K : Value → World → Prop) : (Nat → Value) → World → Prop := fun s w => LoopP (fun M1 s w => s103_p3_den K M1 s w) s w
theorem s103_p4_ok (K : Value → World → Prop) (s : Nat → Value) (w : World) (h : s103_p4 K (s 0) (s 1) (s 5) (s 6) (s 7) (s 42) (s 43) (s 44) w) : Tr (s103_p4_den K s w) :=
  tr_loop (G := fun N' s w => s103_p3_den K N' s w) (F := s103_p4_F K) (sel := fun s => [s 0, s 1, s 5, s 6, s 7, s 42, s 43, s 44]) (s := s) (w := w) (p := s103_p4 K (s 0) (s 1) (s 5) (s 6) (s 7) (s 42) (s 43) (s 44) w) (q := s103_p4_den K s w) (fun B s w h => s103_p3_ok K B s w @h) (by kernel_rfl) (by kernel_rfl) @h
def s103_p5 (K : Value → World → Prop) (t0 t1 : Value) (w : World) : Prop :=
  cl Tryz.prog 148 #[t0, t1] (fun t12 w =>
  un .not t12 (fun t13 w =>
  ifb t13
  (cl Tryz.prog 83 #[(.int .i64 2)] (fun t14 w =>
  K t14 w) w)
  (nck t0 (fun t16 w =>
  fd 15 t16 (fun t17 w =>
  ld1 t17 (fun t18 w =>
  boI .sub t1 (.int .i64 1) (fun t20 w =>
  ixs 7 t18 t20 (fun t21 w =>
  fd 1 t21 (fun t22 w =>
  ld1 t22 (fun t23 w =>
  boI .neq t23 (.int .i64 7) (fun t24 w =>
  ifb t24
  (cl Tryz.prog 83 #[(.int .i64 8)] (fun t25 w =>
  K t25 w) w)
  (nck t0 (fun t27 w =>
  fd 15 t27 (fun t28 w =>
  ld1 t28 (fun t29 w =>
  boI .sub t1 (.int .i64 1) (fun t31 w =>
  ixs 7 t29 t31 (fun t32 w =>
  fd 4 t32 (fun t33 w =>
  ld1 t33 (fun t34 w =>
  boI .sub t34 (.int .i64 1) (fun t35 w =>
  nck t0 (fun t37 w =>
  fd 16 t37 (fun t38 w =>
  ld1 t38 (fun t39 w =>
  ixs 1 t39 t35 (fun t41 w =>
  ld1 t41 (fun t42 w =>
  lnS t42 (fun t43 w =>
  s103_p4 K t0 t1 t35 (.int .i64 1) (.int .i64 0) t42 t43 (.int .i64 0) w) w) w) w) w) w) w) w) w) w) w) w) w) w) w)) w) w) w) w) w) w) w) w)) w) w
def s103_p5_den (K : Value → World → Prop) : (Nat → Value) → World → Prop := denL Tryz.prog [(cd (Tryz.f103.body.getD .skip) [0]), (cd (Tryz.f103.body.getD .skip) [1, 0, 0]), (cd (Tryz.f103.body.getD .skip) [1, 0, 1]), (cd (Tryz.f103.body.getD .skip) [1, 1, 0, 0]), (cd (Tryz.f103.body.getD .skip) [1, 1, 0, 1]), (cd (Tryz.f103.body.getD .skip) [1, 1, 1, 0]), (cd (Tryz.f103.body.getD .skip) [1, 1, 1, 1, 0]), (cd (Tryz.f103.body.getD .skip) [1, 1, 1, 1, 1, 0, 0])] (s103_p4_den K) (fun i => (fun _ _ => False)) (s103_R K)
theorem s103_p5_ok (K : Value → World → Prop) (s : Nat → Value) (w : World) (h : s103_p5 K (s 0) (s 1) w) : Tr (s103_p5_den K s w) :=
  tr_simple (P := Tryz.prog) (codes := [(cd (Tryz.f103.body.getD .skip) [0]), (cd (Tryz.f103.body.getD .skip) [1, 0, 0]), (cd (Tryz.f103.body.getD .skip) [1, 0, 1]), (cd (Tryz.f103.body.getD .skip) [1, 1, 0, 0]), (cd (Tryz.f103.body.getD .skip) [1, 1, 0, 1]), (cd (Tryz.f103.body.getD .skip) [1, 1, 1, 0]), (cd (Tryz.f103.body.getD .skip) [1, 1, 1, 1, 0]), (cd (Tryz.f103.body.getD .skip) [1, 1, 1, 1, 1, 0, 0])]) (N := (fun s w => s103_p4 K (s 0) (s 1) (s 5) (s 6) (s 7) (s 42) (s 43) (s 44) w)) (N' := (s103_p4_den K)) (X := (fun i => (fun _ _ => False))) (X' := (fun i => (fun _ _ => False))) (R := s103_R K) (s := s) (w := w) (p := s103_p5 K (s 0) (s 1) w) (q := s103_p5_den K s w) (fun s w h => s103_p4_ok K s w @h) (fun i => tr_id) (by kernel_rfl) (by kernel_rfl) @h
/-- the call, from the text -/
theorem c103 (t0 t1 : Value) {K : Value → World → Prop} {w : World} (h : s103_p5 K t0 t1 w) : cl Tryz.prog 103 #[t0, t1] K w :=
  calls_of_tr (c := (Tryz.f103.body.getD .skip)) (fn := Tryz.f103) (q := s103_p5_den K (st0 #[t0, t1]) w) Tryz.func103 (by kernel_rfl) (by kernel_rfl) (Nat.le_of_ble_eq_true (by kernel_rfl)) (by kernel_rfl) (by kernel_rfl) (s103_p5_ok K (st0 #[t0, t1]) w @h)

/-! ### function 138 : e2e.enginem.first -/
def s138_R (K : Value → World → Prop) (s : Nat → Value) (w : World) : Prop := retv Tryz.prog s Tryz.f138.results.toList (fun vs => K (pack vs) w) w
def s138_p1 (K : Value → World → Prop) (w : World) : Prop :=
  K (.tuple #[(.int .i64 0), (.int .i64 (-1))]) w
def s138_p1_den (K : Value → World → Prop) : (Nat → Value) → World → Prop := denL Tryz.prog [(cd (Tryz.f138.body.getD .skip) [1, 1, 1, 0]), (cd (Tryz.f138.body.getD .skip) [1, 1, 1, 1])] (fun _ _ => False) (fun i => (fun _ _ => False)) (s138_R K)
theorem s138_p1_ok (K : Value → World → Prop) (s : Nat → Value) (w : World) (h : s138_p1 K w) : Tr (s138_p1_den K s w) :=
  tr_simple (P := Tryz.prog) (codes := [(cd (Tryz.f138.body.getD .skip) [1, 1, 1, 0]), (cd (Tryz.f138.body.getD .skip) [1, 1, 1, 1])]) (N := (fun _ _ => False)) (N' := (fun _ _ => False)) (X := (fun i => (fun _ _ => False))) (X' := (fun i => (fun _ _ => False))) (R := s138_R K) (s := s) (w := w) (p := s138_p1 K w) (q := s138_p1_den K s w) tr_id (fun i => tr_id) (by kernel_rfl) (by kernel_rfl) @h
def s138_p2 (K : Value → World → Prop) (B1 : List Value → World → Prop) (t0 t2 t4 t5 : Value) (w : World) : Prop :=
  boI .lss t5 (.int .i64 9) (fun t7 w =>
  ifb t7
  (lnS t0 (fun t12 w =>
  boI .geq t5 t12 (fun t13 w =>
  ifb t13
  (K (.tuple #[(.int .i64 0), (.int .i64 0)]) w)
  (ixs 1 t0 t5 (fun t17 w =>
  ld1 t17 (fun t18 w =>
  boI .rem t18 (.int .u8 128) (fun t19 w =>
  cvi .i64 t19 (fun t20 w =>
  boI .mul t20 t4 (fun t22 w =>
  boI .add t2 t22 (fun t23 w =>
  boI .mul t4 (.int .i64 128) (fun t25 w =>
  ixs 1 t0 t5 (fun t28 w =>
  ld1 t28 (fun t29 w =>
  boI .lss t29 (.int .u8 128) (fun t30 w =>
  ifb t30
  (ixs 1 t0 t5 (fun t33 w =>
  ld1 t33 (fun t34 w =>
  boI .eql t34 (.int .u8 0) (fun t35 w =>
  gd t35 true (fun K w => K t5 w) (fun t37 w =>
  gd t35 true (boI .gtr t37 (.int .i64 0)) (fun t38 w =>
  pk t35 t38 (.bool false) (fun t39 w =>
  ifb t39
  (K (.tuple #[(.int .i64 0), (.int .i64 (-1))]) w)
  (boI .add t5 (.int .i64 1) (fun t42 w =>
  K (.tuple #[t23, t42]) w) w)) w) w) w) w) w) w)
  (boI .add t5 (.int .i64 1) (fun t9 w =>
  B1 [t0, t23, t25, t9] w) w)) w) w) w) w) w) w) w) w) w) w)) w) w)
  (s138_p1 K w)) w
def s138_p2_den (K : Value → World → Prop) (M1 : (Nat → Value) → World → Prop) : (Nat → Value) → World → Prop := denL Tryz.prog [(cd (Tryz.f138.body.getD .skip) [1, 1, 0, 1, 0, 0, 0, 0]), (cd (Tryz.f138.body.getD .skip) [1, 1, 0, 1, 0, 0, 0, 1]), (cd (Tryz.f138.body.getD .skip) [1, 1, 0, 1, 0, 0, 1, 0]), (cd (Tryz.f138.body.getD .skip) [1, 1, 0, 1, 0, 0, 1, 1])] M1 (fun i => (bif Nat.beq i 0 then (s138_p1_den K) else (fun _ _ => False))) (s138_R K)
theorem s138_p2_ok (K : Value → World → Prop) (B1 : List Value → World → Prop) (s : Nat → Value) (w : World) (h : s138_p2 K B1 (s 0) (s 2) (s 4) (s 5) w) : Tr (s138_p2_den K (fun s w => B1 [s 0, s 2, s 4, s 5] w) s w) :=
  tr_simple (P := Tryz.prog) (codes := [(cd (Tryz.f138.body.getD .skip) [1, 1, 0, 1, 0, 0, 0, 0]), (cd (Tryz.f138.body.getD .skip) [1, 1, 0, 1, 0, 0, 0, 1]), (cd (Tryz.f138.body.getD .skip) [1, 1, 0, 1, 0, 0, 1, 0]), (cd (Tryz.f138.body.getD .skip) [1, 1, 0, 1, 0, 0, 1, 1])]) (N := (fun s w => B1 [s 0, s 2, s 4, s 5] w)) (N' := (fun s w => B1 [s 0, s 2, s 4, s 5] w)) (X := (fun i => (bif Nat.beq i 0 then (fun s w => s138_p1 K w) else (fun _ _ => False)))) (X' := (fun i => (bif Nat.beq i 0 then (s138_p1_den K) else (fun _ _ => False)))) (R := s138_R K) (s := s) (w := w) (p := s138_p2 K B1 (s 0) (s 2) (s 4) (s 5) w) (q := s138_p2_den K (fun s w => B1 [s 0, s 2, s 4, s 5] w) s w) tr_id (fun i => (tr_bif (fun s w h => s138_p1_ok K s w @h) tr_id)) (by kernel_rfl) (by kernel_rfl) @h
def s138_p3_F (K : Value → World → Prop) (B1 : List Value → World → Prop) (l : List Value) (w : World) : Prop :=
  match l with
  | [t0, t2, t4, t5] => s138_p2 K B1 t0 t2 t4 t5 w
  | _ => False
theorem s138_p3_Fe {K : Value → World → Prop} {B1 : List Value → World → Prop} {t0 t2 t4 t5 : Value} {w : World} : s138_p3_F K B1 [t0, t2, t4, t5] w = s138_p2 K B1 t0 t2 t4 t5 w := by kernel_rfl
def s138_p3 (K : Value → World → Prop) (t0 t2 t4 t5 : Value) (w : World) : Prop :=
  LoopL (s138_p3_F K) [t0, t2, t4, t5] w
def s138_p3_den (K : Value → World → Prop) : (Nat → Value) → World → Prop := fun s w => LoopP (fun M1 s w => s138_p2_den K M1 s w) s w
theorem s138_p3_ok (K : Value → World → Prop) (s : Nat → Value) (w : World) (h : s138_p3 K (s 0) (s 2) (s 4) (s 5) w) : Tr (s138_p3_den K s w) :=
  tr_loop (G := fun N' s w => s138_p2_den K N' s w) (F := s138_p3_F K) (sel := fun s => [s 0, s 2, s 4, s 5]) (s := s) (w := w) (p := s138_p3 K (s 0) (s 2) (s 4) (s 5) w) (q := s138_p3_den K s w) (fun B s w h => s138_p2_ok K B s w @h) (by kernel_rfl) (by kernel_rfl) @h
def s138_p4 (K : Value → World → Prop) (t0 : Value) (w : World) : Prop :=
  s138_p3 K t0 (.int .i64 0) (.int .i64 1) (.int .i64 0) w
def s138_p4_den (K : Value → World → Prop) : (Nat → Value) → World → Prop := denL Tryz.prog [(cd (Tryz.f138.body.getD .skip) [0]), (cd (Tryz.f138.body.getD .skip) [1, 0]), (cd (Tryz.f138.body.getD .skip) [1, 1, 0, 0])] (s138_p3_den K) (fun i => (fun _ _ => False)) (s138_R K)
theorem s138_p4_ok (K : Value → World → Prop) (s : Nat → Value) (w : World) (h : s138_p4 K (s 0) w) : Tr (s138_p4_den K s w) :=
  tr_simple (P := Tryz.prog) (codes := [(cd (Tryz.f138.body.getD .skip) [0]), (cd (Tryz.f138.body.getD .skip) [1, 0]), (cd (Tryz.f138.body.getD .skip) [1, 1, 0, 0])]) (N := (fun s w => s138_p3 K (s 0) (s 2) (s 4) (s 5) w)) (N' := (s138_p3_den K)) (X := (fun i => (fun _ _ => False))) (X' := (fun i => (fun _ _ => False))) (R := s138_R K) (s := s) (w := w) (p := s138_p4 K (s 0) w) (q := s138_p4_den K s w) (fun s w h => s138_p3_ok K s w @h) (fun i => tr_id) (by kernel_rfl) (by kernel_rfl) @h
/-- the call, from the text -/
theorem c138 (t0 : Value) {K : Value → World → Prop} {w : World} (h : s138_p4 K t0 w) : cl Tryz.prog 138 #[t0] K w :=
  calls_of_tr (c := (Tryz.f138.body.getD .skip)) (fn := Tryz.f138) (q := s138_p4_den K (st0 #[t0]) w) Tryz.func138 (by kernel_rfl) (by kernel_rfl) (Nat.le_of_ble_eq_true (by kernel_rfl)) (by kernel_rfl) (by kernel_rfl) (s138_p4_ok K (st0 #[t0]) w @h)

/-! ### function 139 : e2e.enginem.number -/
def s139_R (K : Value → World → Prop) (s : Nat → Value) (w : World) : Prop := retv Tryz.prog s Tryz.f139.results.toList (fun vs => K (pack vs) w) w
def s139_p1 (K : Value → World → Prop) (t0 : Value) (w : World) : Prop :=
  boI .lss t0 (.int .i64 128) (fun t4 w =>
  ifb t4
  (cvi .u8 t0 (fun t6 w =>
  bsq 5 [(.int .u8 0)] 1 [(some (0, 1), t6)] (fun t7 w =>
  K t7 w) w) w)
  (boI .rem t0 (.int .i64 128) (fun t9 w =>
  boI .add (.int .i64 128) t9 (fun t10 w =>
  cvi .u8 t10 (fun t11 w =>
  bsq 5 [(.int .u8 0)] 1 [(some (0, 1), t11)] (fun t12 w =>
  boI .quo t0 (.int .i64 128) (fun t14 w =>
  cl Tryz.prog 139 #[t14] (fun t15 w =>
  apq 5 [(.int .u8 0)] 1 t12 t15 (fun t16 w =>
  K t16 w) w) w) w) w) w) w) w)) w
def s139_p1_den (K : Value → World → Prop) : (Nat → Value) → World → Prop := denL Tryz.prog [(cd (Tryz.f139.body.getD .skip) [0]), (cd (Tryz.f139.body.getD .skip) [1, 0, 0]), (cd (Tryz.f139.body.getD .skip) [1, 0, 1]), (cd (Tryz.f139.body.getD .skip) [1, 1, 0]), (cd (Tryz.f139.body.getD .skip) [1, 1, 1])] (fun _ _ => False) (fun i => (fun _ _ => False)) (s139_R K)
theorem s139_p1_ok (K : Value → World → Prop) (s : Nat → Value) (w : World) (h : s139_p1 K (s 0) w) : Tr (s139_p1_den K s w) :=
  tr_simple (P := Tryz.prog) (codes := [(cd (Tryz.f139.body.getD .skip) [0]), (cd (Tryz.f139.body.getD .skip) [1, 0, 0]), (cd (Tryz.f139.body.getD .skip) [1, 0, 1]), (cd (Tryz.f139.body.getD .skip) [1, 1, 0]), (cd (Tryz.f139.body.getD .skip) [1, 1, 1])]) (N := (fun _ _ => False)) (N' := (fun _ _ => False)) (X := (fun i => (fun _ _ => False))) (X' := (fun i => (fun _ _ => False))) (R := s139_R K) (s := s) (w := w) (p := s139_p1 K (s 0) w) (q := s139_p1_den K s w) tr_id (fun i => tr_id) (by kernel_rfl) (by kernel_rfl) @h
/-- the call, from the text -/
theorem c139 (t0 : Value) {K : Value → World → Prop} {w : World} (h : s139_p1 K t0 w) : cl Tryz.prog 139 #[t0] K w :=
  calls_of_tr (c := (Tryz.f139.body.getD .skip)) (fn := Tryz.f139) (q := s139_p1_den K (st0 #[t0]) w) Tryz.func139 (by kernel_rfl) (by kernel_rfl) (Nat.le_of_ble_eq_true (by kernel_rfl)) (by kernel_rfl) (by kernel_rfl) (s139_p1_ok K (st0 #[t0]) w @h)

/-! ### function 144 : (*e2e.enginem.State).party -/
def s144_R (K : Value → World → Prop) (s : Nat → Value) (w : World) : Prop := retv Tryz.prog s Tryz.f144.results.toList (fun vs => K (pack vs) w) w
def s144_p1 (K : Value → World → Prop) (t0 t1 t2 : Value) (w : World) : Prop :=
  boI .geq t1 (.int .i64 3) (fun t8 w =>
  ifb t8
  (K (.int .i64 12) w)
  (boI .eql t2 (.int .i64 0) (fun t10 w =>
  gd t10 false (fun K w => K t2 w) (fun t12 w =>
  gd t10 false (fun K w => K t0 w) (fun t13 w =>
  gd t10 false (nck t13) (fun t14 w =>
  gd t10 false (fd 0 t14) (fun t15 w =>
  gd t10 false (fd 4 t15) (fun t16 w =>
  gd t10 false (ld1 t16) (fun t17 w =>
  gd t10 false (boI .gtr t12 t17) (fun t18 w =>
  pk t10 (.bool true) t18 (fun t19 w =>
  ifb t19
  (K (.int .i64 4) w)
  (K (.int .i64 0) w)) w) w) w) w) w) w) w) w) w)) w
def s144_p1_den (K : Value → World → Prop) : (Nat → Value) → World → Prop := denL Tryz.prog [(cd (Tryz.f144.body.getD .skip) [0]), (cd (Tryz.f144.body.getD .skip) [1, 0, 0]), (cd (Tryz.f144.body.getD .skip) [1, 0, 1]), (cd (Tryz.f144.body.getD .skip) [1, 1, 0, 0]), (cd (Tryz.f144.body.getD .skip) [1, 1, 0, 1]), (cd (Tryz.f144.body.getD .skip) [1, 1, 1, 0]), (cd (Tryz.f144.body.getD .skip) [1, 1, 1, 1])] (fun _ _ => False) (fun i => (fun _ _ => False)) (s144_R K)
theorem s144_p1_ok (K : Value → World → Prop) (s : Nat → Value) (w : World) (h : s144_p1 K (s 0) (s 1) (s 2) w) : Tr (s144_p1_den K s w) :=
  tr_simple (P := Tryz.prog) (codes := [(cd (Tryz.f144.body.getD .skip) [0]), (cd (Tryz.f144.body.getD .skip) [1, 0, 0]), (cd (Tryz.f144.body.getD .skip) [1, 0, 1]), (cd (Tryz.f144.body.getD .skip) [1, 1, 0, 0]), (cd (Tryz.f144.body.getD .skip) [1, 1, 0, 1]), (cd (Tryz.f144.body.getD .skip) [1, 1, 1, 0]), (cd (Tryz.f144.body.getD .skip) [1, 1, 1, 1])]) (N := (fun _ _ => False)) (N' := (fun _ _ => False)) (X := (fun i => (fun _ _ => False))) (X' := (fun i => (fun _ _ => False))) (R := s144_R K) (s := s) (w := w) (p := s144_p1 K (s 0) (s 1) (s 2) w) (q := s144_p1_den K s w) tr_id (fun i => tr_id) (by kernel_rfl) (by kernel_rfl) @h
/-- the call, from the text -/
theorem c144 (t0 t1 t2 : Value) {K : Value → World → Prop} {w : World} (h : s144_p1 K t0 t1 t2 w) : cl Tryz.prog 144 #[t0, t1, t2] K w :=
  calls_of_tr (c := (Tryz.f144.body.getD .skip)) (fn := Tryz.f144) (q := s144_p1_den K (st0 #[t0, t1, t2]) w) Tryz.func144 (by kernel_rfl) (by kernel_rfl) (Nat.le_of_ble_eq_true (by kernel_rfl)) (by kernel_rfl) (by kernel_rfl) (s144_p1_ok K (st0 #[t0, t1, t2]) w @h)

/-! ### function 145 : (*e2e.enginem.State).ticket -/
def s145_R (K : Value → World → Prop) (s : Nat → Value) (w : World) : Prop := retv Tryz.prog s Tryz.f145.results.toList (fun vs => K (pack vs) w) w
def s145_p1 (K : Value → World → Prop) (w : World) : Prop :=
  K (.int .i64 0) w
def s145_p1_den (K : Value → World → Prop) : (Nat → Value) → World → Prop := denL Tryz.prog [(cd (Tryz.f145.body.getD .skip) [1, 1, 1, 1, 0]), (cd (Tryz.f145.body.getD .skip) [1, 1, 1, 1, 1])] (fun _ _ => False) (fun i => (fun _ _ => False)) (s145_R K)
theorem s145_p1_ok (K : Value → World → Prop) (s : Nat → Value) (w : World) (h : s145_p1 K w) : Tr (s145_p1_den K s w) :=
  tr_simple (P := Tryz.prog) (codes := [(cd (Tryz.f145.body.getD .skip) [1, 1, 1, 1, 0]), (cd (Tryz.f145.body.getD .skip) [1, 1, 1, 1, 1])]) (N := (fun _ _ => False)) (N' := (fun _ _ => False)) (X := (fun i => (fun _ _ => False))) (X' := (fun i => (fun _ _ => False))) (R := s145_R K) (s := s) (w := w) (p := s145_p1 K w) (q := s145_p1_den K s w) tr_id (fun i => tr_id) (by kernel_rfl) (by kernel_rfl) @h
def s145_p2 (K : Value → World → Prop) (B1 : List Value → World → Prop) (t0 t38 t39 t40 : Value) (w : World) : Prop :=
  boI .lss t40 t39 (fun t41 w =>
  ifb t41
  (ixs 2 t38 t40 (fun t42 w =>
  ldn 2 t42 (fun t43 w =>
  nw 88 #[(.int .i64 0), (.int .i64 0)] (fun t8 w =>
  stn 2 t8 t43 (fun w =>
  fd 1 t8 (fun t45 w =>
  ld1 t45 (fun t46 w =>
  cl Tryz.prog 154 #[t0, t46] (fun t47 w =>
  un .not t47 (fun t48 w =>
  ifb t48
  (K (.int .i64 3) w)
  (boI .add t40 (.int .i64 1) (fun t49 w =>
  B1 [t0, t38, t39, t49] w) w)) w) w) w) w) w) w) w) w)
  (s145_p1 K w)) w
def s145_p2_den (K : Value → World → Prop) (M1 : (Nat → Value) → World → Prop) : (Nat → Value) → World → Prop := denL Tryz.prog [(cd (Tryz.f145.body.getD .skip) [1, 1, 1, 0, 1, 0, 0, 0]), (cd (Tryz.f145.body.getD .skip) [1, 1, 1, 0, 1, 0, 0, 1, 0]), (cd (Tryz.f145.body.getD .skip) [1, 1, 1, 0, 1, 0, 0, 1, 1, 0]), (cd (Tryz.f145.body.getD .skip) [1, 1, 1, 0, 1, 0, 0, 1, 1, 1])] M1 (fun i => (bif Nat.beq i 2 then (s145_p1_den K) else (fun _ _ => False))) (s145_R K)
theorem s145_p2_ok (K : Value → World → Prop) (B1 : List Value → World → Prop) (s : Nat → Value) (w : World) (h : s145_p2 K B1 (s 0) (s 38) (s 39) (s 40) w) : Tr (s145_p2_den K (fun s w => B1 [s 0, s 38, s 39, s 40] w) s w) :=
  tr_simple (P := Tryz.prog) (codes := [(cd (Tryz.f145.body.getD .skip) [1, 1, 1, 0, 1, 0, 0, 0]), (cd (Tryz.f145.body.getD .skip) [1, 1, 1, 0, 1, 0, 0, 1, 0]), (cd (Tryz.f145.body.getD .skip) [1, 1, 1, 0, 1, 0, 0, 1, 1, 0]), (cd (Tryz.f145.body.getD .skip) [1, 1, 1, 0, 1, 0, 0, 1, 1, 1])]) (N := (fun s w => B1 [s 0, s 38, s 39, s 40] w)) (N' := (fun s w => B1 [s 0, s 38, s 39, s 40] w)) (X := (fun i => (bif Nat.beq i 2 then (fun s w => s145_p1 K w) else (fun _ _ => False)))) (X' := (fun i => (bif Nat.beq i 2 then (s145_p1_den K) else (fun _ _ => False)))) (R := s145_R K) (s := s) (w := w) (p := s145_p2 K B1 (s 0) (s 38) (s 39) (s 40) w) (q := s145_p2_den K (fun s w => B1 [s 0, s 38, s 39, s 40] w) s w) tr_id (fun i => (tr_bif (fun s w h => s145_p1_ok K s w @h) tr_id)) (by kernel_rfl) (by kernel_rfl) @h
def s145_p3_F (K : Value → World → Prop) (B1 : List Value → World → Prop) (l : List Value) (w : World) : Prop :=
  match l with
  | [t0, t38, t39, t40] => s145_p2 K B1 t0 t38 t39 t40 w
  | _ => False
theorem s145_p3_Fe {K : Value → World → Prop} {B1 : List Value → World → Prop} {t0 t38 t39 t40 : Value} {w : World} : s145_p3_F K B1 [t0, t38, t39, t40] w = s145_p2 K B1 t0 t38 t39 t40 w := by kernel_rfl
def s145_p3 (K : Value → World → Prop) (t0 t38 t39 t40 : Value) (w : World) : Prop :=
  LoopL (s145_p3_F K) [t0, t38, t39, t40] w
def s145_p3_den (K : Value → World → Prop) : (Nat → Value) → World → Prop := fun s w => LoopP (fun M1 s w => s145_p2_den K M1 s w) s w
theorem s145_p3_ok (K : Value → World → Prop) (s : Nat → Value) (w : World) (h : s145_p3 K (s 0) (s 38) (s 39) (s 40) w) : Tr (s145_p3_den K s w) :=
  tr_loop (G := fun N' s w => s145_p2_den K N' s w) (F := s145_p3_F K) (sel := fun s => [s 0, s 38, s 39, s 40]) (s := s) (w := w) (p := s145_p3 K (s 0) (s 38) (s 39) (s 40) w) (q := s145_p3_den K s w) (fun B s w h => s145_p2_ok K B s w @h) (by kernel_rfl) (by kernel_rfl) @h
def s145_p4 (K : Value → World → Prop) (t0 t1 : Value) (w : World) : Prop :=
  lnS t1 (fun t39 w =>
  s145_p3 K t0 t1 t39 (.int .i64 0) w) w
def s145_p4_den (K : Value → World → Prop) : (Nat → Value) → World → Prop := denL Tryz.prog [(cd (Tryz.f145.body.getD .skip) [1, 1, 1, 0, 0])] (s145_p3_den K) (fun i => (fun _ _ => False)) (s145_R K)
theorem s145_p4_ok (K : Value → World → Prop) (s : Nat → Value) (w : World) (h : s145_p4 K (s 0) (s 1) w) : Tr (s145_p4_den K s w) :=
  tr_simple (P := Tryz.prog) (codes := [(cd (Tryz.f145.body.getD .skip) [1, 1, 1, 0, 0])]) (N := (fun s w => s145_p3 K (s 0) (s 38) (s 39) (s 40) w)) (N' := (s145_p3_den K)) (X := (fun i => (fun _ _ => False))) (X' := (fun i => (fun _ _ => False))) (R := s145_R K) (s := s) (w := w) (p := s145_p4 K (s 0) (s 1) w) (q := s145_p4_den K s w) (fun s w h => s145_p3_ok K s w @h) (fun i => tr_id) (by kernel_rfl) (by kernel_rfl) @h
def s145_p5 (K : Value → World → Prop) (B1 : List Value → World → Prop) (t0 t1 t22 t23 t24 : Value) (w : World) : Prop :=
  boI .add t24 (.int .i64 1) (fun t37 w =>
  B1 [t0, t1, t22, t23, t37] w) w
def s145_p5_den (K : Value → World → Prop) (M1 : (Nat → Value) → World → Prop) : (Nat → Value) → World → Prop := denL Tryz.prog [(cd (Tryz.f145.body.getD .skip) [1, 1, 0, 1, 0, 0, 1, 1, 1])] M1 (fun i => (bif Nat.beq i 0 then (s145_p4_den K) else (fun _ _ => False))) (s145_R K)
theorem s145_p5_ok (K : Value → World → Prop) (B1 : List Value → World → Prop) (s : Nat → Value) (w : World) (h : s145_p5 K B1 (s 0) (s 1) (s 22) (s 23) (s 24) w) : Tr (s145_p5_den K (fun s w => B1 [s 0, s 1, s 22, s 23, s 24] w) s w) :=
  tr_simple (P := Tryz.prog) (codes := [(cd (Tryz.f145.body.getD .skip) [1, 1, 0, 1, 0, 0, 1, 1, 1])]) (N := (fun s w => B1 [s 0, s 1, s 22, s 23, s 24] w)) (N' := (fun s w => B1 [s 0, s 1, s 22, s 23, s 24] w)) (X := (fun i => (bif Nat.beq i 0 then (fun s w => s145_p4 K (s 0) (s 1) w) else (fun _ _ => False)))) (X' := (fun i => (bif Nat.beq i 0 then (s145_p4_den K) else (fun _ _ => False)))) (R := s145_R K) (s := s) (w := w) (p := s145_p5 K B1 (s 0) (s 1) (s 22) (s 23) (s 24) w) (q := s145_p5_den K (fun s w => B1 [s 0, s 1, s 22, s 23, s 24] w) s w) tr_id (fun i => (tr_bif (fun s w h => s145_p4_ok K s w @h) tr_id)) (by kernel_rfl) (by kernel_rfl) @h
def s145_p6 (K : Value → World → Prop) (B1 : List Value → World → Prop) (t0 t1 t22 t23 t24 t36 : Value) (w : World) : Prop :=
  ifb t36
  (K (.int .i64 13) w)
  (s145_p5 K B1 t0 t1 t22 t23 t24 w)
def s145_p6_den (K : Value → World → Prop) (M1 : (Nat → Value) → World → Prop) : (Nat → Value) → World → Prop := denL Tryz.prog [(cd (Tryz.f145.body.getD .skip) [1, 1, 0, 1, 0, 0, 1, 1, 0, 0, 1, 1])] (s145_p5_den K M1) (fun i => (bif Nat.beq i 1 then (s145_p5_den K M1) else (bif Nat.beq i 0 then (s145_p4_den K) else (fun _ _ => False)))) (s145_R K)
theorem s145_p6_ok (K : Value → World → Prop) (B1 : List Value → World → Prop) (s : Nat → Value) (w : World) (h : s145_p6 K B1 (s 0) (s 1) (s 22) (s 23) (s 24) (s 36) w) : Tr (s145_p6_den K (fun s w => B1 [s 0, s 1, s 22, s 23, s 24] w) s w) :=
  tr_simple (P := Tryz.prog) (codes := [(cd (Tryz.f145.body.getD .skip) [1, 1, 0, 1, 0, 0, 1, 1, 0, 0, 1, 1])]) (N := (fun s w => s145_p5 K B1 (s 0) (s 1) (s 22) (s 23) (s 24) w)) (N' := (s145_p5_den K (fun s w => B1 [s 0, s 1, s 22, s 23, s 24] w))) (X := (fun i => (bif Nat.beq i 1 then (fun s w => s145_p5 K B1 (s 0) (s 1) (s 22) (s 23) (s 24) w) else (bif Nat.beq i 0 then (fun s w => s145_p4 K (s 0) (s 1) w) else (fun _ _ => False))))) (X' := (fun i => (bif Nat.beq i 1 then (s145_p5_den K (fun s w => B1 [s 0, s 1, s 22, s 23, s 24] w)) else (bif Nat.beq i 0 then (s145_p4_den K) else (fun _ _ => False))))) (R := s145_R K) (s := s) (w := w) (p := s145_p6 K B1 (s 0) (s 1) (s 22) (s 23) (s 24) (s 36) w) (q := s145_p6_den K (fun s w => B1 [s 0, s 1, s 22, s 23, s 24] w) s w) (fun s w h => s145_p5_ok K B1 s w @h) (fun i => (tr_bif (fun s w h => s145_p5_ok K B1 s w @h) (tr_bif (fun s w h => s145_p4_ok K s w @h) tr_id))) (by kernel_rfl) (by kernel_rfl) @h
def s145_p7_d (K : Value → World → Prop) (B1 : List Value → World → Prop) (t0 t1 t6 t22 t23 t24 : Value) (w0 w : World) : Prop :=
  fd 0 t6 (fun t28 _ =>
  ld1 t28 (fun t29 _ =>
  nck t0 (fun t31 _ =>
  fd 0 t31 (fun t32 _ =>
  fd 0 t32 (fun t33 _ =>
  ld1 t33 (fun t34 _ =>
  lnS t34 (fun t35 _ =>
  boI .geq t29 t35 (fun t36 _ =>
  s145_p6 K B1 t0 t1 t22 t23 t24 t36 w) w0) w0) w0) w0) w0) w0) w0) w0
def s145_p7 (K : Value → World → Prop) (B1 : List Value → World → Prop) (t0 t1 t6 t22 t23 t24 : Value) (w : World) : Prop := s145_p7_d K B1 t0 t1 t6 t22 t23 t24 (drw w) (drw w)
def s145_p7_den (K : Value → World → Prop) (M1 : (Nat → Value) → World → Prop) : (Nat → Value) → World → Prop := denL Tryz.prog [(cd (Tryz.f145.body.getD .skip) [1, 1, 0, 1, 0, 0, 1, 1, 0, 0, 1, 0])] (s145_p6_den K M1) (fun i => (bif Nat.beq i 1 then (s145_p5_den K M1) else (bif Nat.beq i 0 then (s145_p4_den K) else (fun _ _ => False)))) (s145_R K)
theorem s145_p7_ok (K : Value → World → Prop) (B1 : List Value → World → Prop) (s : Nat → Value) (w : World) (h : s145_p7 K B1 (s 0) (s 1) (s 6) (s 22) (s 23) (s 24) w) : Tr (s145_p7_den K (fun s w => B1 [s 0, s 1, s 22, s 23, s 24] w) s w) :=
  tr_draw (P := Tryz.prog) (ops := (ro (cd (Tryz.f145.body.getD .skip) [1, 1, 0, 1, 0, 0, 1, 1, 0, 0, 1, 0]))) (ms := [0, 1, 0, 4, 12, 28, 60, 124, 255]) (cs := [0, 1, 2, 3, 4, 5, 6, 7, 8]) (N := (fun s w => s145_p6 K B1 (s 0) (s 1) (s 22) (s 23) (s 24) (s 36) w)) (N' := (s145_p6_den K (fun s w => B1 [s 0, s 1, s 22, s 23, s 24] w))) (s := s) (w := w) (p := s145_p7 K B1 (s 0) (s 1) (s 6) (s 22) (s 23) (s 24) w) (q := s145_p7_den K (fun s w => B1 [s 0, s 1, s 22, s 23, s 24] w) s w) (by kernel_rfl) (by kernel_rfl) (fun s w h => s145_p6_ok K B1 s w @h) (by kernel_rfl) (by kernel_rfl) @h
def s145_p8 (K : Value → World → Prop) (B1 : List Value → World → Prop) (t0 t1 t22 t23 t24 : Value) (w : World) : Prop :=
  ixs 2 t22 t24 (fun t26 w =>
  ldn 2 t26 (fun t27 w =>
  nw 88 #[(.int .i64 0), (.int .i64 0)] (fun t6 w =>
  stn 2 t6 t27 (fun w =>
  s145_p7 K B1 t0 t1 t6 t22 t23 t24 w) w) w) w) w
def s145_p8_den (K : Value → World → Prop) (M1 : (Nat → Value) → World → Prop) : (Nat → Value) → World → Prop := denL Tryz.prog [(cd (Tryz.f145.body.getD .skip) [1, 1, 0, 1, 0, 0, 1, 1, 0, 0, 0])] (s145_p7_den K M1) (fun i => (bif Nat.beq i 1 then (s145_p5_den K M1) else (bif Nat.beq i 0 then (s145_p4_den K) else (fun _ _ => False)))) (s145_R K)
theorem s145_p8_ok (K : Value → World → Prop) (B1 : List Value → World → Prop) (s : Nat → Value) (w : World) (h : s145_p8 K B1 (s 0) (s 1) (s 22) (s 23) (s 24) w) : Tr (s145_p8_den K (fun s w => B1 [s 0, s 1, s 22, s 23, s 24] w) s w) :=
  tr_simple (P := Tryz.prog) (codes := [(cd (Tryz.f145.body.getD .skip) [1, 1, 0, 1, 0, 0, 1, 1, 0, 0, 0])]) (N := (fun s w => s145_p7 K B1 (s 0) (s 1) (s 6) (s 22) (s 23) (s 24) w)) (N' := (s145_p7_den K (fun s w => B1 [s 0, s 1, s 22, s 23, s 24] w))) (X := (fun i => (bif Nat.beq i 1 then (fun s w => s145_p5 K B1 (s 0) (s 1) (s 22) (s 23) (s 24) w) else (bif Nat.beq i 0 then (fun s w => s145_p4 K (s 0) (s 1) w) else (fun _ _ => False))))) (X' := (fun i => (bif Nat.beq i 1 then (s145_p5_den K (fun s w => B1 [s 0, s 1, s 22, s 23, s 24] w)) else (bif Nat.beq i 0 then (s145_p4_den K) else (fun _ _ => False))))) (R := s145_R K) (s := s) (w := w) (p := s145_p8 K B1 (s 0) (s 1) (s 22) (s 23) (s 24) w) (q := s145_p8_den K (fun s w => B1 [s 0, s 1, s 22, s 23, s 24] w) s w) (fun s w h => s145_p7_ok K B1 s w @h) (fun i => (tr_bif (fun s w h => s145_p5_ok K B1 s w @h) (tr_bif (fun s w h => s145_p4_ok K s w @h) tr_id))) (by kernel_rfl) (by kernel_rfl) @h
def s145_p9 (K : Value → World → Prop) (B1 : List Value → World → Prop) (t0 t1 t22 t23 t24 : Value) (w : World) : Prop :=
  boI .lss t24 t23 (fun t25 w =>
  ifb t25
  (s145_p8 K B1 t0 t1 t22 t23 t24 w)
  (s145_p4 K t0 t1 w)) w
def s145_p9_den (K : Value → World → Prop) (M1 : (Nat → Value) → World → Prop) : (Nat → Value) → World → Prop := denL Tryz.prog [(cd (Tryz.f145.body.getD .skip) [1, 1, 0, 1, 0, 0, 0]), (cd (Tryz.f145.body.getD .skip) [1, 1, 0, 1, 0, 0, 1, 0])] (s145_p8_den K M1) (fun i => (bif Nat.beq i 0 then (s145_p4_den K) else (fun _ _ => False))) (s145_R K)
theorem s145_p9_ok (K : Value → World → Prop) (B1 : List Value → World → Prop) (s : Nat → Value) (w : World) (h : s145_p9 K B1 (s 0) (s 1) (s 22) (s 23) (s 24) w) : Tr (s145_p9_den K (fun s w => B1 [s 0, s 1, s 22, s 23, s 24] w) s w) :=
  tr_simple (P := Tryz.prog) (codes := [(cd (Tryz.f145.body.getD .skip) [1, 1, 0, 1, 0, 0, 0]), (cd (Tryz.f145.body.getD .skip) [1, 1, 0, 1, 0, 0, 1, 0])]) (N := (fun s w => s145_p8 K B1 (s 0) (s 1) (s 22) (s 23) (s 24) w)) (N' := (s145_p8_den K (fun s w => B1 [s 0, s 1, s 22, s 23, s 24] w))) (X := (fun i => (bif Nat.beq i 0 then (fun s w => s145_p4 K (s 0) (s 1) w) else (fun _ _ => False)))) (X' := (fun i => (bif Nat.beq i 0 then (s145_p4_den K) else (fun _ _ => False)))) (R := s145_R K) (s := s) (w := w) (p := s145_p9 K B1 (s 0) (s 1) (s 22) (s 23) (s 24) w) (q := s145_p9_den K (fun s w => B1 [s 0, s 1, s 22, s 23, s 24] w) s w) (fun s w h => s145_p8_ok K B1 s w @h) (fun i => (tr_bif (fun s w h => s145_p4_ok K s w @h) tr_id)) (by kernel_rfl) (by kernel_rfl) @h
def s145_p10_F (K : Value → World → Prop) (B1 : List Value → World → Prop) (l : List Value) (w : World) : Prop :=
  match l with
  | [t0, t1, t22, t23, t24] => s145_p9 K B1 t0 t1 t22 t23 t24 w
  | _ => False
theorem s145_p10_Fe {K : Value → World → Prop} {B1 : List Value → World → Prop} {t0 t1 t22 t23 t24 : Value} {w : World} : s145_p10_F K B1 [t0, t1, t22, t23, t24] w = s145_p9 K B1 t0 t1 t22 t23 t24 w := by kernel_rfl
def s145_p10 (K : Value → World → Prop) (t0 t1 t22 t23 t24 : Value) (w : World) : Prop :=
  LoopL (s145_p10_F K) [t0, t1, t22, t23, t24] w
def s145_p10_den (K : Value → World → Prop) : (Nat → Value) → World → Prop := fun s w => LoopP (fun M1 s w => s145_p9_den K M1 s w) s w
theorem s145_p10_ok (K : Value → World → Prop) (s : Nat → Value) (w : World) (h : s145_p10 K (s 0) (s 1) (s 22) (s 23) (s 24) w) : Tr (s145_p10_den K s w) :=
  tr_loop (G := fun N' s w => s145_p9_den K N' s w) (F := s145_p10_F K) (sel := fun s => [s 0, s 1, s 22, s 23, s 24]) (s := s) (w := w) (p := s145_p10 K (s 0) (s 1) (s 22) (s 23) (s 24) w) (q := s145_p10_den K s w) (fun B s w h => s145_p9_ok K B s w @h) (by kernel_rfl) (by kernel_rfl) @h
def s145_p11 (K : Value → World → Prop) (t0 t1 : Value) (w : World) : Prop :=
  lnS t1 (fun t10 w =>
  boI .eql t10 (.int .i64 0) (fun t11 w =>
  gd t11 false (fun K w => K t1 w) (fun t13 w =>
  gd t11 false (lnS t13) (fun t14 w =>
  gd t11 false (fun K w => K t0 w) (fun t15 w =>
  gd t11 false (nck t15) (fun t16 w =>
  gd t11 false (fd 0 t16) (fun t17 w =>
  gd t11 false (fd 5 t17) (fun t18 w =>
  gd t11 false (ld1 t18) (fun t19 w =>
  gd t11 false (boI .gtr t14 t19) (fun t20 w =>
  pk t11 (.bool true) t20 (fun t21 w =>
  ifb t21
  (K (.int .i64 14) w)
  (lnS t1 (fun t23 w =>
  s145_p10 K t0 t1 t1 t23 (.int .i64 0) w) w)) w) w) w) w) w) w) w) w) w) w) w
def s145_p11_den (K : Value → World → Prop) : (Nat → Value) → World → Prop := denL Tryz.prog [(cd (Tryz.f145.body.getD .skip) [0]), (cd (Tryz.f145.body.getD .skip) [1, 0, 0]), (cd (Tryz.f145.body.getD .skip) [1, 0, 1]), (cd (Tryz.f145.body.getD .skip) [1, 1, 0, 0])] (s145_p10_den K) (fun i => (fun _ _ => False)) (s145_R K)
theorem s145_p11_ok (K : Value → World → Prop) (s : Nat → Value) (w : World) (h : s145_p11 K (s 0) (s 1) w) : Tr (s145_p11_den K s w) :=
  tr_simple (P := Tryz.prog) (codes := [(cd (Tryz.f145.body.getD .skip) [0]), (cd (Tryz.f145.body.getD .skip) [1, 0, 0]), (cd (Tryz.f145.body.getD .skip) [1, 0, 1]), (cd (Tryz.f145.body.getD .skip) [1, 1, 0, 0])]) (N := (fun s w => s145_p10 K (s 0) (s 1) (s 22) (s 23) (s 24) w)) (N' := (s145_p10_den K)) (X := (fun i => (fun _ _ => False))) (X' := (fun i => (fun _ _ => False))) (R := s145_R K) (s := s) (w := w) (p := s145_p11 K (s 0) (s 1) w) (q := s145_p11_den K s w) (fun s w h => s145_p10_ok K s w @h) (fun i => tr_id) (by kernel_rfl) (by kernel_rfl) @h
/-- the call, from the text -/
theorem c145 (t0 t1 : Value) {K : Value → World → Prop} {w : World} (h : s145_p11 K t0 t1 w) : cl Tryz.prog 145 #[t0, t1] K w :=
  calls_of_tr (c := (Tryz.f145.body.getD .skip)) (fn := Tryz.f145) (q := s145_p11_den K (st0 #[t0, t1]) w) Tryz.func145 (by kernel_rfl) (by kernel_rfl) (Nat.le_of_ble_eq_true (by kernel_rfl)) (by kernel_rfl) (by kernel_rfl) (s145_p11_ok K (st0 #[t0, t1]) w @h)

/-! ### function 146 : (*e2e.enginem.State).with -/
def s146_R (K : Value → World → Prop) (s : Nat → Value) (w : World) : Prop := retv Tryz.prog s Tryz.f146.results.toList (fun vs => K (pack vs) w) w
def s146_p1 (K : Value → World → Prop) (t5 : Value) (w : World) : Prop :=
  K t5 w
def s146_p1_den (K : Value → World → Prop) : (Nat → Value) → World → Prop := denL Tryz.prog [(cd (Tryz.f146.body.getD .skip) [1, 1, 1, 1, 0]), (cd (Tryz.f146.body.getD .skip) [1, 1, 1, 1, 1])] (fun _ _ => False) (fun i => (fun _ _ => False)) (s146_R K)
theorem s146_p1_ok (K : Value → World → Prop) (s : Nat → Value) (w : World) (h : s146_p1 K (s 5) w) : Tr (s146_p1_den K s w) :=
  tr_simple (P := Tryz.prog) (codes := [(cd (Tryz.f146.body.getD .skip) [1, 1, 1, 1, 0]), (cd (Tryz.f146.body.getD .skip) [1, 1, 1, 1, 1])]) (N := (fun _ _ => False)) (N' := (fun _ _ => False)) (X := (fun i => (fun _ _ => False))) (X' := (fun i => (fun _ _ => False))) (R := s146_R K) (s := s) (w := w) (p := s146_p1 K (s 5) w) (q := s146_p1_den K s w) tr_id (fun i => tr_id) (by kernel_rfl) (by kernel_rfl) @h
def s146_p2_d (K : Value → World → Prop) (t3 t5 : Value) (w0 w : World) : Prop :=
  nck t5 (fun t17 _ =>
  fd 15 t17 (fun t18 _ =>
  ld1 t18 (fun t19 _ =>
  ldn 7 t3 (fun t20 _ =>
  nck t5 (fun t23 _ =>
  fd 15 t23 (fun t24 _ =>
  bsq 85 [(.int .i64 0), (.int .i64 0), (.int .i64 0), (.int .i64 0), (.int .i64 0), (.int .i64 0), (.slice none 0 0)] 1 [(some (0, 7), t20)] (fun t21 w =>
  Below w0.heap.size w0 w ∧
  apq 85 [(.int .i64 0), (.int .i64 0), (.int .i64 0), (.int .i64 0), (.int .i64 0), (.int .i64 0), (.slice none 0 0)] 72 t19 t21 (fun t22 w =>
  st1 t24 t22 (fun w =>
  s146_p1 K t5 w) w) w) w) w0) w0) w0) w0) w0) w0
def s146_p2 (K : Value → World → Prop) (t3 t5 : Value) (w : World) : Prop := s146_p2_d K t3 t5 (drw w) (drw w)
def s146_p2_den (K : Value → World → Prop) : (Nat → Value) → World → Prop := denL Tryz.prog [(cd (Tryz.f146.body.getD .skip) [1, 1, 1, 0])] (s146_p1_den K) (fun i => (fun _ _ => False)) (s146_R K)
theorem s146_p2_ok (K : Value → World → Prop) (s : Nat → Value) (w : World) (h : s146_p2 K (s 3) (s 5) w) : Tr (s146_p2_den K s w) :=
  tr_draw (P := Tryz.prog) (ops := (ro (cd (Tryz.f146.body.getD .skip) [1, 1, 1, 0]))) (ms := [0, 0, 2, 6, 14, 0, 32, 126, 255, 511, 1023]) (cs := [0, 1, 2, 3, 4, 5, 8, 9]) (N := (fun s w => s146_p1 K (s 5) w)) (N' := (s146_p1_den K)) (s := s) (w := w) (p := s146_p2 K (s 3) (s 5) w) (q := s146_p2_den K s w) (by kernel_rfl) (by kernel_rfl) (fun s w h => s146_p1_ok K s w @h) (by kernel_rfl) (by kernel_rfl) @h
def s146_p3 (K : Value → World → Prop) (t0 t1 : Value) (w : World) : Prop :=
  nw 85 (t1).cells (fun t3 w =>
  cl Tryz.prog 149 #[t0] (fun t7 w =>
  nck t7 (fun t9 w =>
  fd 15 t9 (fun t10 w =>
  ld1 t10 (fun t11 w =>
  lnS t11 (fun t12 w =>
  boI .add t12 (.int .i64 1) (fun t13 w =>
  fd 0 t3 (fun t14 w =>
  st1 t14 t13 (fun w =>
  s146_p2 K t3 t7 w) w) w) w) w) w) w) w) w) w
def s146_p3_den (K : Value → World → Prop) : (Nat → Value) → World → Prop := denL Tryz.prog [(cd (Tryz.f146.body.getD .skip) [0]), (cd (Tryz.f146.body.getD .skip) [1, 0]), (cd (Tryz.f146.body.getD .skip) [1, 1, 0])] (s146_p2_den K) (fun i => (fun _ _ => False)) (s146_R K)
theorem s146_p3_ok (K : Value → World → Prop) (s : Nat → Value) (w : World) (h : s146_p3 K (s 0) (s 1) w) : Tr (s146_p3_den K s w) :=
  tr_simple (P := Tryz.prog) (codes := [(cd (Tryz.f146.body.getD .skip) [0]), (cd (Tryz.f146.body.getD .skip) [1, 0]), (cd (Tryz.f146.body.getD .skip) [1, 1, 0])]) (N := (fun s w => s146_p2 K (s 3) (s 5) w)) (N' := (s146_p2_den K)) (X := (fun i => (fun _ _ => False))) (X' := (fun i => (fun _ _ => False))) (R := s146_R K) (s := s) (w := w) (p := s146_p3 K (s 0) (s 1) w) (q := s146_p3_den K s w) (fun s w h => s146_p2_ok K s w @h) (fun i => tr_id) (by kernel_rfl) (by kernel_rfl) @h
/-- the call, from the text -/
theorem c146 (t0 t1 : Value) {K : Value → World → Prop} {w : World} (h : s146_p3 K t0 t1 w) : cl Tryz.prog 146 #[t0, t1] K w :=
  calls_of_tr (c := (Tryz.f146.body.getD .skip)) (fn := Tryz.f146) (q := s146_p3_den K (st0 #[t0, t1]) w) Tryz.func146 (by kernel_rfl) (by kernel_rfl) (Nat.le_of_ble_eq_true (by kernel_rfl)) (by kernel_rfl) (by kernel_rfl) (s146_p3_ok K (st0 #[t0, t1]) w @h)

/-! ### function 147 : (*e2e.enginem.State).Verdict -/
def s147_R (K : Value → World → Prop) (s : Nat → Value) (w : World) : Prop := retv Tryz.prog s Tryz.f147.results.toList (fun vs => K (pack vs) w) w
def s147_p1 (K : Value → World → Prop) (t0 : Value) (w : World) : Prop :=
  cl Tryz.prog 190 #[t0] (fun t4 w =>
  un .not t4 (fun t5 w =>
  ifb t5
  (K (.int .i64 5) w)
  (cl Tryz.prog 191 #[t0] (fun t7 w =>
  un .not t7 (fun t8 w =>
  ifb t8
  (K (.int .i64 6) w)
  (cl Tryz.prog 192 #[t0] (fun t10 w =>
  un .not t10 (fun t11 w =>
  ifb t11
  (K (.int .i64 7) w)
  (K (.int .i64 0) w)) w) w)) w) w)) w) w
def s147_p1_den (K : Value → World → Prop) : (Nat → Value) → World → Prop := denL Tryz.prog [(cd (Tryz.f147.body.getD .skip) [0]), (cd (Tryz.f147.body.getD .skip) [1, 0, 0]), (cd (Tryz.f147.body.getD .skip) [1, 0, 1]), (cd (Tryz.f147.body.getD .skip) [1, 1, 0, 0]), (cd (Tryz.f147.body.getD .skip) [1, 1, 0, 1]), (cd (Tryz.f147.body.getD .skip) [1, 1, 1, 0, 0]), (cd (Tryz.f147.body.getD .skip) [1, 1, 1, 0, 1]), (cd (Tryz.f147.body.getD .skip) [1, 1, 1, 1, 0]), (cd (Tryz.f147.body.getD .skip) [1, 1, 1, 1, 1])] (fun _ _ => False) (fun i => (fun _ _ => False)) (s147_R K)
theorem s147_p1_ok (K : Value → World → Prop) (s : Nat → Value) (w : World) (h : s147_p1 K (s 0) w) : Tr (s147_p1_den K s w) :=
  tr_simple (P := Tryz.prog) (codes := [(cd (Tryz.f147.body.getD .skip) [0]), (cd (Tryz.f147.body.getD .skip) [1, 0, 0]), (cd (Tryz.f147.body.getD .skip) [1, 0, 1]), (cd (Tryz.f147.body.getD .skip) [1, 1, 0, 0]), (cd (Tryz.f147.body.getD .skip) [1, 1, 0, 1]), (cd (Tryz.f147.body.getD .skip) [1, 1, 1, 0, 0]), (cd (Tryz.f147.body.getD .skip) [1, 1, 1, 0, 1]), (cd (Tryz.f147.body.getD .skip) [1, 1, 1, 1, 0]), (cd (Tryz.f147.body.getD .skip) [1, 1, 1, 1, 1])]) (N := (fun _ _ => False)) (N' := (fun _ _ => False)) (X := (fun i => (fun _ _ => False))) (X' := (fun i => (fun _ _ => False))) (R := s147_R K) (s := s) (w := w) (p := s147_p1 K (s 0) w) (q := s147_p1_den K s w) tr_id (fun i => tr_id) (by kernel_rfl) (by kernel_rfl) @h
/-- the call, from the text -/
theorem c147 (t0 : Value) {K : Value → World → Prop} {w : World} (h : s147_p1 K t0 w) : cl Tryz.prog 147 #[t0] K w :=
  calls_of_tr (c := (Tryz.f147.body.getD .skip)) (fn := Tryz.f147) (q := s147_p1_den K (st0 #[t0]) w) Tryz.func147 (by kernel_rfl) (by kernel_rfl) (Nat.le_of_ble_eq_true (by kernel_rfl)) (by kernel_rfl) (by kernel_rfl) (s147_p1_ok K (st0 #[t0]) w @h)

/-! ### function 148 : (*e2e.enginem.State).known -/
def s148_R (K : Value → World → Prop) (s : Nat → Value) (w : World) : Prop := retv Tryz.prog s Tryz.f148.results.toList (fun vs => K (pack vs) w) w
def s148_p1 (K : Value → World → Prop) (t0 t1 : Value) (w : World) : Prop :=
  boI .leq (.int .i64 1) t1 (fun t6 w =>
  gd t6 true (fun K w => K t1 w) (fun t8 w =>
  gd t6 true (fun K w => K t0 w) (fun t9 w =>
  gd t6 true (nck t9) (fun t10 w =>
  gd t6 true (fd 15 t10) (fun t11 w =>
  gd t6 true (ld1 t11) (fun t12 w =>
  gd t6 true (lnS t12) (fun t13 w =>
  gd t6 true (boI .leq t8 t13) (fun t14 w =>
  pk t6 t14 (.bool false) (fun t15 w =>
  K t15 w) w) w) w) w) w) w) w) w) w
def s148_p1_den (K : Value → World → Prop) : (Nat → Value) → World → Prop := denL Tryz.prog [(cd (Tryz.f148.body.getD .skip) [0]), (cd (Tryz.f148.body.getD .skip) [1, 0]), (cd (Tryz.f148.body.getD .skip) [1, 1])] (fun _ _ => False) (fun i => (fun _ _ => False)) (s148_R K)
theorem s148_p1_ok (K : Value → World → Prop) (s : Nat → Value) (w : World) (h : s148_p1 K (s 0) (s 1) w) : Tr (s148_p1_den K s w) :=
  tr_simple (P := Tryz.prog) (codes := [(cd (Tryz.f148.body.getD .skip) [0]), (cd (Tryz.f148.body.getD .skip) [1, 0]), (cd (Tryz.f148.body.getD .skip) [1, 1])]) (N := (fun _ _ => False)) (N' := (fun _ _ => False)) (X := (fun i => (fun _ _ => False))) (X' := (fun i => (fun _ _ => False))) (R := s148_R K) (s := s) (w := w) (p := s148_p1 K (s 0) (s 1) w) (q := s148_p1_den K s w) tr_id (fun i => tr_id) (by kernel_rfl) (by kernel_rfl) @h
/-- the call, from the text -/
theorem c148 (t0 t1 : Value) {K : Value → World → Prop} {w : World} (h : s148_p1 K t0 t1 w) : cl Tryz.prog 148 #[t0, t1] K w :=
  calls_of_tr (c := (Tryz.f148.body.getD .skip)) (fn := Tryz.f148) (q := s148_p1_den K (st0 #[t0, t1]) w) Tryz.func148 (by kernel_rfl) (by kernel_rfl) (Nat.le_of_ble_eq_true (by kernel_rfl)) (by kernel_rfl) (by kernel_rfl) (s148_p1_ok K (st0 #[t0, t1]) w @h)

/-! ### function 149 : (*e2e.enginem.State).Clone -/
def s149_R (K : Value → World → Prop) (s : Nat → Value) (w : World) : Prop := retv Tryz.prog s Tryz.f149.results.toList (fun vs => K (pack vs) w) w
def s149_p1 (K : Value → World → Prop) (t3 : Value) (w : World) : Prop :=
  K t3 w
def s149_p1_den (K : Value → World → Prop) : (Nat → Value) → World → Prop := denL Tryz.prog [(cd (Tryz.f149.body.getD .skip) [1, 1, 1, 1, 0]), (cd (Tryz.f149.body.getD .skip) [1, 1, 1, 1, 1])] (fun _ _ => False) (fun i => (fun _ _ => False)) (s149_R K)
theorem s149_p1_ok (K : Value → World → Prop) (s : Nat → Value) (w : World) (h : s149_p1 K (s 3) w) : Tr (s149_p1_den K s w) :=
  tr_simple (P := Tryz.prog) (codes := [(cd (Tryz.f149.body.getD .skip) [1, 1, 1, 1, 0]), (cd (Tryz.f149.body.getD .skip) [1, 1, 1, 1, 1])]) (N := (fun _ _ => False)) (N' := (fun _ _ => False)) (X := (fun i => (fun _ _ => False))) (X' := (fun i => (fun _ _ => False))) (R := s149_R K) (s := s) (w := w) (p := s149_p1 K (s 3) w) (q := s149_p1_den K s w) tr_id (fun i => tr_id) (by kernel_rfl) (by kernel_rfl) @h
def s149_p2 (K : Value → World → Prop) (B1 : List Value → World → Prop) (t3 t46 t47 t48 : Value) (w : World) : Prop :=
  boI .add t48 (.int .i64 1) (fun t64 w =>
  B1 [t3, t46, t47, t64] w) w
def s149_p2_den (K : Value → World → Prop) (M1 : (Nat → Value) → World → Prop) : (Nat → Value) → World → Prop := denL Tryz.prog [(cd (Tryz.f149.body.getD .skip) [1, 1, 1, 0, 1, 0, 0, 1, 1, 1])] M1 (fun i => (bif Nat.beq i 2 then (s149_p1_den K) else (fun _ _ => False))) (s149_R K)
theorem s149_p2_ok (K : Value → World → Prop) (B1 : List Value → World → Prop) (s : Nat → Value) (w : World) (h : s149_p2 K B1 (s 3) (s 46) (s 47) (s 48) w) : Tr (s149_p2_den K (fun s w => B1 [s 3, s 46, s 47, s 48] w) s w) :=
  tr_simple (P := Tryz.prog) (codes := [(cd (Tryz.f149.body.getD .skip) [1, 1, 1, 0, 1, 0, 0, 1, 1, 1])]) (N := (fun s w => B1 [s 3, s 46, s 47, s 48] w)) (N' := (fun s w => B1 [s 3, s 46, s 47, s 48] w)) (X := (fun i => (bif Nat.beq i 2 then (fun s w => s149_p1 K (s 3) w) else (fun _ _ => False)))) (X' := (fun i => (bif Nat.beq i 2 then (s149_p1_den K) else (fun _ _ => False)))) (R := s149_R K) (s := s) (w := w) (p := s149_p2 K B1 (s 3) (s 46) (s 47) (s 48) w) (q := s149_p2_den K (fun s w => B1 [s 3, s 46, s 47, s 48] w) s w) tr_id (fun i => (tr_bif (fun s w h => s149_p1_ok K s w @h) tr_id)) (by kernel_rfl) (by kernel_rfl) @h
def s149_p3_d (K : Value → World → Prop) (B1 : List Value → World → Prop) (t3 t7 t46 t47 t48 : Value) (w0 w : World) : Prop :=
  nck t3 (fun t54 _ =>
  fd 16 t54 (fun t55 _ =>
  ld1 t55 (fun t56 _ =>
  nck t3 (fun t62 _ =>
  fd 16 t62 (fun t63 _ =>
  bsq 3 [(.int .i64 0)] 0 [] (fun t57 w =>
  Below w0.heap.size w0 w ∧
  apq 3 [(.int .i64 0)] 8 t57 t7 (fun t59 w =>
  Below w0.heap.size w0 w ∧
  bsq 79 [(.slice none 0 0)] 1 [(some (0, 1), t59)] (fun t60 w =>
  Below w0.heap.size w0 w ∧
  apq 79 [(.slice none 0 0)] 24 t56 t60 (fun t61 w =>
  st1 t63 t61 (fun w =>
  s149_p2 K B1 t3 t46 t47 t48 w) w) w) w) w) w) w0) w0) w0) w0) w0
def s149_p3 (K : Value → World → Prop) (B1 : List Value → World → Prop) (t3 t7 t46 t47 t48 : Value) (w : World) : Prop := s149_p3_d K B1 t3 t7 t46 t47 t48 (drw w) (drw w)
def s149_p3_den (K : Value → World → Prop) (M1 : (Nat → Value) → World → Prop) : (Nat → Value) → World → Prop := denL Tryz.prog [(cd (Tryz.f149.body.getD .skip) [1, 1, 1, 0, 1, 0, 0, 1, 1, 0, 0, 1])] (s149_p2_den K M1) (fun i => (bif Nat.beq i 3 then (s149_p2_den K M1) else (bif Nat.beq i 2 then (s149_p1_den K) else (fun _ _ => False)))) (s149_R K)
theorem s149_p3_ok (K : Value → World → Prop) (B1 : List Value → World → Prop) (s : Nat → Value) (w : World) (h : s149_p3 K B1 (s 3) (s 7) (s 46) (s 47) (s 48) w) : Tr (s149_p3_den K (fun s w => B1 [s 3, s 46, s 47, s 48] w) s w) :=
  tr_draw (P := Tryz.prog) (ops := (ro (cd (Tryz.f149.body.getD .skip) [1, 1, 1, 0, 1, 0, 0, 1, 1, 0, 0, 1]))) (ms := [0, 0, 2, 6, 14, 0, 0, 96, 224, 510, 1023, 2047, 4095]) (cs := [0, 1, 2, 3, 4, 6, 10, 11]) (N := (fun s w => s149_p2 K B1 (s 3) (s 46) (s 47) (s 48) w)) (N' := (s149_p2_den K (fun s w => B1 [s 3, s 46, s 47, s 48] w))) (s := s) (w := w) (p := s149_p3 K B1 (s 3) (s 7) (s 46) (s 47) (s 48) w) (q := s149_p3_den K (fun s w => B1 [s 3, s 46, s 47, s 48] w) s w) (by kernel_rfl) (by kernel_rfl) (fun s w h => s149_p2_ok K B1 s w @h) (by kernel_rfl) (by kernel_rfl) @h
def s149_p4 (K : Value → World → Prop) (B1 : List Value → World → Prop) (t3 t46 t47 t48 : Value) (w : World) : Prop :=
  ixs 1 t46 t48 (fun t50 w =>
  ld1 t50 (fun t51 w =>
  s149_p3 K B1 t3 t51 t46 t47 t48 w) w) w
def s149_p4_den (K : Value → World → Prop) (M1 : (Nat → Value) → World → Prop) : (Nat → Value) → World → Prop := denL Tryz.prog [(cd (Tryz.f149.body.getD .skip) [1, 1, 1, 0, 1, 0, 0, 1, 1, 0, 0, 0])] (s149_p3_den K M1) (fun i => (bif Nat.beq i 3 then (s149_p2_den K M1) else (bif Nat.beq i 2 then (s149_p1_den K) else (fun _ _ => False)))) (s149_R K)
theorem s149_p4_ok (K : Value → World → Prop) (B1 : List Value → World → Prop) (s : Nat → Value) (w : World) (h : s149_p4 K B1 (s 3) (s 46) (s 47) (s 48) w) : Tr (s149_p4_den K (fun s w => B1 [s 3, s 46, s 47, s 48] w) s w) :=
  tr_simple (P := Tryz.prog) (codes := [(cd (Tryz.f149.body.getD .skip) [1, 1, 1, 0, 1, 0, 0, 1, 1, 0, 0, 0])]) (N := (fun s w => s149_p3 K B1 (s 3) (s 7) (s 46) (s 47) (s 48) w)) (N' := (s149_p3_den K (fun s w => B1 [s 3, s 46, s 47, s 48] w))) (X := (fun i => (bif Nat.beq i 3 then (fun s w => s149_p2 K B1 (s 3) (s 46) (s 47) (s 48) w) else (bif Nat.beq i 2 then (fun s w => s149_p1 K (s 3) w) else (fun _ _ => False))))) (X' := (fun i => (bif Nat.beq i 3 then (s149_p2_den K (fun s w => B1 [s 3, s 46, s 47, s 48] w)) else (bif Nat.beq i 2 then (s149_p1_den K) else (fun _ _ => False))))) (R := s149_R K) (s := s) (w := w) (p := s149_p4 K B1 (s 3) (s 46) (s 47) (s 48) w) (q := s149_p4_den K (fun s w => B1 [s 3, s 46, s 47, s 48] w) s w) (fun s w h => s149_p3_ok K B1 s w @h) (fun i => (tr_bif (fun s w h => s149_p2_ok K B1 s w @h) (tr_bif (fun s w h => s149_p1_ok K s w @h) tr_id))) (by kernel_rfl) (by kernel_rfl) @h
def s149_p5 (K : Value → World → Prop) (B1 : List Value → World → Prop) (t3 t46 t47 t48 : Value) (w : World) : Prop :=
  boI .lss t48 t47 (fun t49 w =>
  ifb t49
  (s149_p4 K B1 t3 t46 t47 t48 w)
  (s149_p1 K t3 w)) w
def s149_p5_den (K : Value → World → Prop) (M1 : (Nat → Value) → World → Prop) : (Nat → Value) → World → Prop := denL Tryz.prog [(cd (Tryz.f149.body.getD .skip) [1, 1, 1, 0, 1, 0, 0, 0]), (cd (Tryz.f149.body.getD .skip) [1, 1, 1, 0, 1, 0, 0, 1, 0])] (s149_p4_den K M1) (fun i => (bif Nat.beq i 2 then (s149_p1_den K) else (fun _ _ => False))) (s149_R K)
theorem s149_p5_ok (K : Value → World → Prop) (B1 : List Value → World → Prop) (s : Nat → Value) (w : World) (h : s149_p5 K B1 (s 3) (s 46) (s 47) (s 48) w) : Tr (s149_p5_den K (fun s w => B1 [s 3, s 46, s 47, s 48] w) s w) :=
  tr_simple (P := Tryz.prog) (codes := [(cd (Tryz.f149.body.getD .skip) [1, 1, 1, 0, 1, 0, 0, 0]), (cd (Tryz.f149.body.getD .skip) [1, 1, 1, 0, 1, 0, 0, 1, 0])]) (N := (fun s w => s149_p4 K B1 (s 3) (s 46) (s 47) (s 48) w)) (N' := (s149_p4_den K (fun s w => B1 [s 3, s 46, s 47, s 48] w))) (X := (fun i => (bif Nat.beq i 2 then (fun s w => s149_p1 K (s 3) w) else (fun _ _ => False)))) (X' := (fun i => (bif Nat.beq i 2 then (s149_p1_den K) else (fun _ _ => False)))) (R := s149_R K) (s := s) (w := w) (p := s149_p5 K B1 (s 3) (s 46) (s 47) (s 48) w) (q := s149_p5_den K (fun s w => B1 [s 3, s 46, s 47, s 48] w) s w) (fun s w h => s149_p4_ok K B1 s w @h) (fun i => (tr_bif (fun s w h => s149_p1_ok K s w @h) tr_id)) (by kernel_rfl) (by kernel_rfl) @h
def s149_p6_F (K : Value → World → Prop) (B1 : List Value → World → Prop) (l : List Value) (w : World) : Prop :=
  match l with
  | [t3, t46, t47, t48] => s149_p5 K B1 t3 t46 t47 t48 w
  | _ => False
theorem s149_p6_Fe {K : Value → World → Prop} {B1 : List Value → World → Prop} {t3 t46 t47 t48 : Value} {w : World} : s149_p6_F K B1 [t3, t46, t47, t48] w = s149_p5 K B1 t3 t46 t47 t48 w := by kernel_rfl
def s149_p6 (K : Value → World → Prop) (t3 t46 t47 t48 : Value) (w : World) : Prop :=
  LoopL (s149_p6_F K) [t3, t46, t47, t48] w
def s149_p6_den (K : Value → World → Prop) : (Nat → Value) → World → Prop := fun s w => LoopP (fun M1 s w => s149_p5_den K M1 s w) s w
theorem s149_p6_ok (K : Value → World → Prop) (s : Nat → Value) (w : World) (h : s149_p6 K (s 3) (s 46) (s 47) (s 48) w) : Tr (s149_p6_den K s w) :=
  tr_loop (G := fun N' s w => s149_p5_den K N' s w) (F := s149_p6_F K) (sel := fun s => [s 3, s 46, s 47, s 48]) (s := s) (w := w) (p := s149_p6 K (s 3) (s 46) (s 47) (s 48) w) (q := s149_p6_den K s w) (fun B s w h => s149_p5_ok K B s w @h) (by kernel_rfl) (by kernel_rfl) @h
def s149_p7 (K : Value → World → Prop) (t0 t3 : Value) (w : World) : Prop :=
  nck t0 (fun t44 w =>
  fd 16 t44 (fun t45 w =>
  ld1 t45 (fun t46 w =>
  lnS t46 (fun t47 w =>
  s149_p6 K t3 t46 t47 (.int .i64 0) w) w) w) w) w
def s149_p7_den (K : Value → World → Prop) : (Nat → Value) → World → Prop := denL Tryz.prog [(cd (Tryz.f149.body.getD .skip) [1, 1, 1, 0, 0])] (s149_p6_den K) (fun i => (fun _ _ => False)) (s149_R K)
theorem s149_p7_ok (K : Value → World → Prop) (s : Nat → Value) (w : World) (h : s149_p7 K (s 0) (s 3) w) : Tr (s149_p7_den K s w) :=
  tr_simple (P := Tryz.prog) (codes := [(cd (Tryz.f149.body.getD .skip) [1, 1, 1, 0, 0])]) (N := (fun s w => s149_p6 K (s 3) (s 46) (s 47) (s 48) w)) (N' := (s149_p6_den K)) (X := (fun i => (fun _ _ => False))) (X' := (fun i => (fun _ _ => False))) (R := s149_R K) (s := s) (w := w) (p := s149_p7 K (s 0) (s 3) w) (q := s149_p7_den K s w) (fun s w h => s149_p6_ok K s w @h) (fun i => tr_id) (by kernel_rfl) (by kernel_rfl) @h
def s149_p8 (K : Value → World → Prop) (B1 : List Value → World → Prop) (t0 t3 t21 t22 t23 : Value) (w : World) : Prop :=
  boI .add t23 (.int .i64 1) (fun t42 w =>
  B1 [t0, t3, t21, t22, t42] w) w
def s149_p8_den (K : Value → World → Prop) (M1 : (Nat → Value) → World → Prop) : (Nat → Value) → World → Prop := denL Tryz.prog [(cd (Tryz.f149.body.getD .skip) [1, 1, 0, 1, 0, 0, 1, 1, 1])] M1 (fun i => (bif Nat.beq i 0 then (s149_p7_den K) else (fun _ _ => False))) (s149_R K)
theorem s149_p8_ok (K : Value → World → Prop) (B1 : List Value → World → Prop) (s : Nat → Value) (w : World) (h : s149_p8 K B1 (s 0) (s 3) (s 21) (s 22) (s 23) w) : Tr (s149_p8_den K (fun s w => B1 [s 0, s 3, s 21, s 22, s 23] w) s w) :=
  tr_simple (P := Tryz.prog) (codes := [(cd (Tryz.f149.body.getD .skip) [1, 1, 0, 1, 0, 0, 1, 1, 1])]) (N := (fun s w => B1 [s 0, s 3, s 21, s 22, s 23] w)) (N' := (fun s w => B1 [s 0, s 3, s 21, s 22, s 23] w)) (X := (fun i => (bif Nat.beq i 0 then (fun s w => s149_p7 K (s 0) (s 3) w) else (fun _ _ => False)))) (X' := (fun i => (bif Nat.beq i 0 then (s149_p7_den K) else (fun _ _ => False)))) (R := s149_R K) (s := s) (w := w) (p := s149_p8 K B1 (s 0) (s 3) (s 21) (s 22) (s 23) w) (q := s149_p8_den K (fun s w => B1 [s 0, s 3, s 21, s 22, s 23] w) s w) tr_id (fun i => (tr_bif (fun s w h => s149_p7_ok K s w @h) tr_id)) (by kernel_rfl) (by kernel_rfl) @h
def s149_p9_d (K : Value → World → Prop) (B1 : List Value → World → Prop) (t0 t3 t5 t21 t22 t23 : Value) (w0 w : World) : Prop :=
  nck t3 (fun t34 _ =>
  fd 15 t34 (fun t35 _ =>
  ld1 t35 (fun t36 _ =>
  ldn 7 t5 (fun t37 _ =>
  nck t3 (fun t40 _ =>
  fd 15 t40 (fun t41 _ =>
  bsq 85 [(.int .i64 0), (.int .i64 0), (.int .i64 0), (.int .i64 0), (.int .i64 0), (.int .i64 0), (.slice none 0 0)] 1 [(some (0, 7), t37)] (fun t38 w =>
  Below w0.heap.size w0 w ∧
  apq 85 [(.int .i64 0), (.int .i64 0), (.int .i64 0), (.int .i64 0), (.int .i64 0), (.int .i64 0), (.slice none 0 0)] 72 t36 t38 (fun t39 w =>
  st1 t41 t39 (fun w =>
  s149_p8 K B1 t0 t3 t21 t22 t23 w) w) w) w) w0) w0) w0) w0) w0) w0
def s149_p9 (K : Value → World → Prop) (B1 : List Value → World → Prop) (t0 t3 t5 t21 t22 t23 : Value) (w : World) : Prop := s149_p9_d K B1 t0 t3 t5 t21 t22 t23 (drw w) (drw w)
def s149_p9_den (K : Value → World → Prop) (M1 : (Nat → Value) → World → Prop) : (Nat → Value) → World → Prop := denL Tryz.prog [(cd (Tryz.f149.body.getD .skip) [1, 1, 0, 1, 0, 0, 1, 1, 0, 0, 1, 1])] (s149_p8_den K M1) (fun i => (bif Nat.beq i 1 then (s149_p8_den K M1) else (bif Nat.beq i 0 then (s149_p7_den K) else (fun _ _ => False)))) (s149_R K)
theorem s149_p9_ok (K : Value → World → Prop) (B1 : List Value → World → Prop) (s : Nat → Value) (w : World) (h : s149_p9 K B1 (s 0) (s 3) (s 5) (s 21) (s 22) (s 23) w) : Tr (s149_p9_den K (fun s w => B1 [s 0, s 3, s 21, s 22, s 23] w) s w) :=
  tr_draw (P := Tryz.prog) (ops := (ro (cd (Tryz.f149.body.getD .skip) [1, 1, 0, 1, 0, 0, 1, 1, 0, 0, 1, 1]))) (ms := [0, 0, 2, 6, 14, 0, 32, 126, 255, 511, 1023]) (cs := [0, 1, 2, 3, 4, 5, 8, 9]) (N := (fun s w => s149_p8 K B1 (s 0) (s 3) (s 21) (s 22) (s 23) w)) (N' := (s149_p8_den K (fun s w => B1 [s 0, s 3, s 21, s 22, s 23] w))) (s := s) (w := w) (p := s149_p9 K B1 (s 0) (s 3) (s 5) (s 21) (s 22) (s 23) w) (q := s149_p9_den K (fun s w => B1 [s 0, s 3, s 21, s 22, s 23] w) s w) (by kernel_rfl) (by kernel_rfl) (fun s w h => s149_p8_ok K B1 s w @h) (by kernel_rfl) (by kernel_rfl) @h
def s149_p10 (K : Value → World → Prop) (B1 : List Value → World → Prop) (t0 t3 t21 t22 t23 : Value) (w : World) : Prop :=
  ixs 7 t21 t23 (fun t25 w =>
  ldn 7 t25 (fun t26 w =>
  nw 85 #[(.int .i64 0), (.int .i64 0), (.int .i64 0), (.int .i64 0), (.int .i64 0), (.int .i64 0), (.slice none 0 0)] (fun t5 w =>
  stn 7 t5 t26 (fun w =>
  bsq 88 [(.int .i64 0), (.int .i64 0)] 0 [] (fun t27 w =>
  fd 6 t5 (fun t28 w =>
  ld1 t28 (fun t29 w =>
  apq 88 [(.int .i64 0), (.int .i64 0)] 16 t27 t29 (fun t30 w =>
  fd 6 t5 (fun t31 w =>
  st1 t31 t30 (fun w =>
  s149_p9 K B1 t0 t3 t5 t21 t22 t23 w) w) w) w) w) w) w) w) w) w) w
def s149_p10_den (K : Value → World → Prop) (M1 : (Nat → Value) → World → Prop) : (Nat → Value) → World → Prop := denL Tryz.prog [(cd (Tryz.f149.body.getD .skip) [1, 1, 0, 1, 0, 0, 1, 1, 0, 0, 0]), (cd (Tryz.f149.body.getD .skip) [1, 1, 0, 1, 0, 0, 1, 1, 0, 0, 1, 0])] (s149_p9_den K M1) (fun i => (bif Nat.beq i 1 then (s149_p8_den K M1) else (bif Nat.beq i 0 then (s149_p7_den K) else (fun _ _ => False)))) (s149_R K)
theorem s149_p10_ok (K : Value → World → Prop) (B1 : List Value → World → Prop) (s : Nat → Value) (w : World) (h : s149_p10 K B1 (s 0) (s 3) (s 21) (s 22) (s 23) w) : Tr (s149_p10_den K (fun s w => B1 [s 0, s 3, s 21, s 22, s 23] w) s w) :=
  tr_simple (P := Tryz.prog) (codes := [(cd (Tryz.f149.body.getD .skip) [1, 1, 0, 1, 0, 0, 1, 1, 0, 0, 0]), (cd (Tryz.f149.body.getD .skip) [1, 1, 0, 1, 0, 0, 1, 1, 0, 0, 1, 0])]) (N := (fun s w => s149_p9 K B1 (s 0) (s 3) (s 5) (s 21) (s 22) (s 23) w)) (N' := (s149_p9_den K (fun s w => B1 [s 0, s 3, s 21, s 22, s 23] w))) (X := (fun i => (bif Nat.beq i 1 then (fun s w => s149_p8 K B1 (s 0) (s 3) (s 21) (s 22) (s 23) w) else (bif Nat.beq i 0 then (fun s w => s149_p7 K (s 0) (s 3) w) else (fun _ _ => False))))) (X' := (fun i => (bif Nat.beq i 1 then (s149_p8_den K (fun s w => B1 [s 0, s 3, s 21, s 22, s 23] w)) else (bif Nat.beq i 0 then (s149_p7_den K) else (fun _ _ => False))))) (R := s149_R K) (s := s) (w := w) (p := s149_p10 K B1 (s 0) (s 3) (s 21) (s 22) (s 23) w) (q := s149_p10_den K (fun s w => B1 [s 0, s 3, s 21, s 22, s 23] w) s w) (fun s w h => s149_p9_ok K B1 s w @h) (fun i => (tr_bif (fun s w h => s149_p8_ok K B1 s w @h) (tr_bif (fun s w h => s149_p7_ok K s w @h) tr_id))) (by kernel_rfl) (by kernel_rfl) @h
def s149_p11 (K : Value → World → Prop) (B1 : List Value → World → Prop) (t0 t3 t21 t22 t23 : Value) (w : World) : Prop :=
  boI .lss t23 t22 (fun t24 w =>
  ifb t24
  (s149_p10 K B1 t0 t3 t21 t22 t23 w)
  (s149_p7 K t0 t3 w)) w
def s149_p11_den (K : Value → World → Prop) (M1 : (Nat → Value) → World → Prop) : (Nat → Value) → World → Prop := denL Tryz.prog [(cd (Tryz.f149.body.getD .skip) [1, 1, 0, 1, 0, 0, 0]), (cd (Tryz.f149.body.getD .skip) [1, 1, 0, 1, 0, 0, 1, 0])] (s149_p10_den K M1) (fun i => (bif Nat.beq i 0 then (s149_p7_den K) else (fun _ _ => False))) (s149_R K)
theorem s149_p11_ok (K : Value → World → Prop) (B1 : List Value → World → Prop) (s : Nat → Value) (w : World) (h : s149_p11 K B1 (s 0) (s 3) (s 21) (s 22) (s 23) w) : Tr (s149_p11_den K (fun s w => B1 [s 0, s 3, s 21, s 22, s 23] w) s w) :=
  tr_simple (P := Tryz.prog) (codes := [(cd (Tryz.f149.body.getD .skip) [1, 1, 0, 1, 0, 0, 0]), (cd (Tryz.f149.body.getD .skip) [1, 1, 0, 1, 0, 0, 1, 0])]) (N := (fun s w => s149_p10 K B1 (s 0) (s 3) (s 21) (s 22) (s 23) w)) (N' := (s149_p10_den K (fun s w => B1 [s 0, s 3, s 21, s 22, s 23] w))) (X := (fun i => (bif Nat.beq i 0 then (fun s w => s149_p7 K (s 0) (s 3) w) else (fun _ _ => False)))) (X' := (fun i => (bif Nat.beq i 0 then (s149_p7_den K) else (fun _ _ => False)))) (R := s149_R K) (s := s) (w := w) (p := s149_p11 K B1 (s 0) (s 3) (s 21) (s 22) (s 23) w) (q := s149_p11_den K (fun s w => B1 [s 0, s 3, s 21, s 22, s 23] w) s w) (fun s w h => s149_p10_ok K B1 s w @h) (fun i => (tr_bif (fun s w h => s149_p7_ok K s w @h) tr_id)) (by kernel_rfl) (by kernel_rfl) @h
def s149_p12_F (K : Value → World → Prop) (B1 : List Value → World → Prop) (l : List Value) (w : World) : Prop :=
  match l with
  | [t0, t3, t21, t22, t23] => s149_p11 K B1 t0 t3 t21 t22 t23 w
  | _ => False
theorem s149_p12_Fe {K : Value → World → Prop} {B1 : List Value → World → Prop} {t0 t3 t21 t22 t23 : Value} {w : World} : s149_p12_F K B1 [t0, t3, t21, t22, t23] w = s149_p11 K B1 t0 t3 t21 t22 t23 w := by kernel_rfl
def s149_p12 (K : Value → World → Prop) (t0 t3 t21 t22 t23 : Value) (w : World) : Prop :=
  LoopL (s149_p12_F K) [t0, t3, t21, t22, t23] w
def s149_p12_den (K : Value → World → Prop) : (Nat → Value) → World → Prop := fun s w => LoopP (fun M1 s w => s149_p11_den K M1 s w) s w
theorem s149_p12_ok (K : Value → World → Prop) (s : Nat → Value) (w : World) (h : s149_p12 K (s 0) (s 3) (s 21) (s 22) (s 23) w) : Tr (s149_p12_den K s w) :=
  tr_loop (G := fun N' s w => s149_p11_den K N' s w) (F := s149_p12_F K) (sel := fun s => [s 0, s 3, s 21, s 22, s 23]) (s := s) (w := w) (p := s149_p12 K (s 0) (s 3) (s 21) (s 22) (s 23) w) (q := s149_p12_den K s w) (fun B s w h => s149_p11_ok K B s w @h) (by kernel_rfl) (by kernel_rfl) @h
def s149_p13 (K : Value → World → Prop) (t0 t3 : Value) (w : World) : Prop :=
  nck t0 (fun t19 w =>
  fd 15 t19 (fun t20 w =>
  ld1 t20 (fun t21 w =>
  lnS t21 (fun t22 w =>
  s149_p12 K t0 t3 t21 t22 (.int .i64 0) w) w) w) w) w
def s149_p13_den (K : Value → World → Prop) : (Nat → Value) → World → Prop := denL Tryz.prog [(cd (Tryz.f149.body.getD .skip) [1, 1, 0, 0])] (s149_p12_den K) (fun i => (fun _ _ => False)) (s149_R K)
theorem s149_p13_ok (K : Value → World → Prop) (s : Nat → Value) (w : World) (h : s149_p13 K (s 0) (s 3) w) : Tr (s149_p13_den K s w) :=
  tr_simple (P := Tryz.prog) (codes := [(cd (Tryz.f149.body.getD .skip) [1, 1, 0, 0])]) (N := (fun s w => s149_p12 K (s 0) (s 3) (s 21) (s 22) (s 23) w)) (N' := (s149_p12_den K)) (X := (fun i => (fun _ _ => False))) (X' := (fun i => (fun _ _ => False))) (R := s149_R K) (s := s) (w := w) (p := s149_p13 K (s 0) (s 3) w) (q := s149_p13_den K s w) (fun s w h => s149_p12_ok K s w @h) (fun i => tr_id) (by kernel_rfl) (by kernel_rfl) @h
def s149_p14_d (K : Value → World → Prop) (t0 : Value) (w0 w : World) : Prop :=
  nck t0 (fun t9 _ =>
  fd 0 t9 (fun t10 _ =>
  ldn 14 t10 (fun t11 _ =>
  nck t0 (fun t13 _ =>
  fd 14 t13 (fun t14 _ =>
  ld1 t14 (fun t15 _ =>
  bdq [(.slice none 0 0), (.slice none 0 0), (.int .i64 0), (.int .i64 0), (.int .i64 0), (.int .i64 0), (.int .i64 0), (.int .i64 0), (.int .i64 0), (.int .i64 0), (.int .i64 0), (.int .i64 0), (.int .i64 0), (.int .i64 0), (.int .i64 0), (.slice none 0 0), (.slice none 0 0)] [(some (0, 14), t11), (some (14, 1), t15)] (fun t16 _ =>
  nw 119 (t16).cells (fun t17 w =>
  s149_p13 K t0 t17 w) w) w0) w0) w0) w0) w0) w0) w0
def s149_p14 (K : Value → World → Prop) (t0 : Value) (w : World) : Prop := s149_p14_d K t0 (drw w) (drw w)
def s149_p14_den (K : Value → World → Prop) : (Nat → Value) → World → Prop := denL Tryz.prog [(cd (Tryz.f149.body.getD .skip) [1, 0])] (s149_p13_den K) (fun i => (fun _ _ => False)) (s149_R K)
theorem s149_p14_ok (K : Value → World → Prop) (s : Nat → Value) (w : World) (h : s149_p14 K (s 0) w) : Tr (s149_p14_den K s w) :=
  tr_draw (P := Tryz.prog) (ops := (ro (cd (Tryz.f149.body.getD .skip) [1, 0]))) (ms := [0, 1, 3, 7, 0, 16, 48, 112, 255, 511, 1023]) (cs := [0, 1, 2, 3, 4, 5, 6, 7, 8]) (N := (fun s w => s149_p13 K (s 0) (s 3) w)) (N' := (s149_p13_den K)) (s := s) (w := w) (p := s149_p14 K (s 0) w) (q := s149_p14_den K s w) (by kernel_rfl) (by kernel_rfl) (fun s w h => s149_p13_ok K s w @h) (by kernel_rfl) (by kernel_rfl) @h
def s149_p15 (K : Value → World → Prop) (t0 : Value) (w : World) : Prop :=
  s149_p14 K t0 w
def s149_p15_den (K : Value → World → Prop) : (Nat → Value) → World → Prop := denL Tryz.prog [(cd (Tryz.f149.body.getD .skip) [0])] (s149_p14_den K) (fun i => (fun _ _ => False)) (s149_R K)
theorem s149_p15_ok (K : Value → World → Prop) (s : Nat → Value) (w : World) (h : s149_p15 K (s 0) w) : Tr (s149_p15_den K s w) :=
  tr_simple (P := Tryz.prog) (codes := [(cd (Tryz.f149.body.getD .skip) [0])]) (N := (fun s w => s149_p14 K (s 0) w)) (N' := (s149_p14_den K)) (X := (fun i => (fun _ _ => False))) (X' := (fun i => (fun _ _ => False))) (R := s149_R K) (s := s) (w := w) (p := s149_p15 K (s 0) w) (q := s149_p15_den K s w) (fun s w h => s149_p14_ok K s w @h) (fun i => tr_id) (by kernel_rfl) (by kernel_rfl) @h
/-- the call, from the text -/
theorem c149 (t0 : Value) {K : Value → World → Prop} {w : World} (h : s149_p15 K t0 w) : cl Tryz.prog 149 #[t0] K w :=
  calls_of_tr (c := (Tryz.f149.body.getD .skip)) (fn := Tryz.f149) (q := s149_p15_den K (st0 #[t0]) w) Tryz.func149 (by kernel_rfl) (by kernel_rfl) (Nat.le_of_ble_eq_true (by kernel_rfl)) (by kernel_rfl) (by kernel_rfl) (s149_p15_ok K (st0 #[t0]) w @h)

/-! ### function 150 : e2e.enginem.without -/
def s150_R (K : Value → World → Prop) (s : Nat → Value) (w : World) : Prop := retv Tryz.prog s Tryz.f150.results.toList (fun vs => K (pack vs) w) w
def s150_p1 (K : Value → World → Prop) (t5 : Value) (w : World) : Prop :=
  K t5 w
def s150_p1_den (K : Value → World → Prop) : (Nat → Value) → World → Prop := denL Tryz.prog [(cd (Tryz.f150.body.getD .skip) [1, 1, 1, 0]), (cd (Tryz.f150.body.getD .skip) [1, 1, 1, 1])] (fun _ _ => False) (fun i => (fun _ _ => False)) (s150_R K)
theorem s150_p1_ok (K : Value → World → Prop) (s : Nat → Value) (w : World) (h : s150_p1 K (s 5) w) : Tr (s150_p1_den K s w) :=
  tr_simple (P := Tryz.prog) (codes := [(cd (Tryz.f150.body.getD .skip) [1, 1, 1, 0]), (cd (Tryz.f150.body.getD .skip) [1, 1, 1, 1])]) (N := (fun _ _ => False)) (N' := (fun _ _ => False)) (X := (fun i => (fun _ _ => False))) (X' := (fun i => (fun _ _ => False))) (R := s150_R K) (s := s) (w := w) (p := s150_p1 K (s 5) w) (q := s150_p1_den K s w) tr_id (fun i => tr_id) (by kernel_rfl) (by kernel_rfl) @h
def s150_p2 (K : Value → World → Prop) (B1 : List Value → World → Prop) (t1 t5 t9 t10 t11 : Value) (w : World) : Prop :=
  boI .add t11 (.int .i64 1) (fun t22 w =>
  B1 [t1, t5, t9, t10, t22] w) w
def s150_p2_den (K : Value → World → Prop) (M1 : (Nat → Value) → World → Prop) : (Nat → Value) → World → Prop := denL Tryz.prog [(cd (Tryz.f150.body.getD .skip) [1, 1, 0, 1, 0, 0, 1, 1, 1])] M1 (fun i => (bif Nat.beq i 0 then (s150_p1_den K) else (fun _ _ => False))) (s150_R K)
theorem s150_p2_ok (K : Value → World → Prop) (B1 : List Value → World → Prop) (s : Nat → Value) (w : World) (h : s150_p2 K B1 (s 1) (s 5) (s 9) (s 10) (s 11) w) : Tr (s150_p2_den K (fun s w => B1 [s 1, s 5, s 9, s 10, s 11] w) s w) :=
  tr_simple (P := Tryz.prog) (codes := [(cd (Tryz.f150.body.getD .skip) [1, 1, 0, 1, 0, 0, 1, 1, 1])]) (N := (fun s w => B1 [s 1, s 5, s 9, s 10, s 11] w)) (N' := (fun s w => B1 [s 1, s 5, s 9, s 10, s 11] w)) (X := (fun i => (bif Nat.beq i 0 then (fun s w => s150_p1 K (s 5) w) else (fun _ _ => False)))) (X' := (fun i => (bif Nat.beq i 0 then (s150_p1_den K) else (fun _ _ => False)))) (R := s150_R K) (s := s) (w := w) (p := s150_p2 K B1 (s 1) (s 5) (s 9) (s 10) (s 11) w) (q := s150_p2_den K (fun s w => B1 [s 1, s 5, s 9, s 10, s 11] w) s w) tr_id (fun i => (tr_bif (fun s w h => s150_p1_ok K s w @h) tr_id)) (by kernel_rfl) (by kernel_rfl) @h
def s150_p3 (K : Value → World → Prop) (B1 : List Value → World → Prop) (t1 t5 t9 t10 t11 : Value) (w : World) : Prop :=
  boI .lss t11 t10 (fun t12 w =>
  ifb t12
  (ixs 1 t9 t11 (fun t13 w =>
  ld1 t13 (fun t14 w =>
  boI .neq t14 t1 (fun t17 w =>
  ifb t17
  (bsq 3 [(.int .i64 0)] 1 [(some (0, 1), t14)] (fun t20 w =>
  apq 3 [(.int .i64 0)] 8 t5 t20 (fun t21 w =>
  s150_p2 K B1 t1 t21 t9 t10 t11 w) w) w)
  (s150_p2 K B1 t1 t5 t9 t10 t11 w)) w) w) w)
  (s150_p1 K t5 w)) w
def s150_p3_den (K : Value → World → Prop) (M1 : (Nat → Value) → World → Prop) : (Nat → Value) → World → Prop := denL Tryz.prog [(cd (Tryz.f150.body.getD .skip) [1, 1, 0, 1, 0, 0, 0]), (cd (Tryz.f150.body.getD .skip) [1, 1, 0, 1, 0, 0, 1, 0]), (cd (Tryz.f150.body.getD .skip) [1, 1, 0, 1, 0, 0, 1, 1, 0])] (s150_p2_den K M1) (fun i => (bif Nat.beq i 0 then (s150_p1_den K) else (fun _ _ => False))) (s150_R K)
theorem s150_p3_ok (K : Value → World → Prop) (B1 : List Value → World → Prop) (s : Nat → Value) (w : World) (h : s150_p3 K B1 (s 1) (s 5) (s 9) (s 10) (s 11) w) : Tr (s150_p3_den K (fun s w => B1 [s 1, s 5, s 9, s 10, s 11] w) s w) :=
  tr_simple (P := Tryz.prog) (codes := [(cd (Tryz.f150.body.getD .skip) [1, 1, 0, 1, 0, 0, 0]), (cd (Tryz.f150.body.getD .skip) [1, 1, 0, 1, 0, 0, 1, 0]), (cd (Tryz.f150.body.getD .skip) [1, 1, 0, 1, 0, 0, 1, 1, 0])]) (N := (fun s w => s150_p2 K B1 (s 1) (s 5) (s 9) (s 10) (s 11) w)) (N' := (s150_p2_den K (fun s w => B1 [s 1, s 5, s 9, s 10, s 11] w))) (X := (fun i => (bif Nat.beq i 0 then (fun s w => s150_p1 K (s 5) w) else (fun _ _ => False)))) (X' := (fun i => (bif Nat.beq i 0 then (s150_p1_den K) else (fun _ _ => False)))) (R := s150_R K) (s := s) (w := w) (p := s150_p3 K B1 (s 1) (s 5) (s 9) (s 10) (s 11) w) (q := s150_p3_den K (fun s w => B1 [s 1, s 5, s 9, s 10, s 11] w) s w) (fun s w h => s150_p2_ok K B1 s w @h) (fun i => (tr_bif (fun s w h => s150_p1_ok K s w @h) tr_id)) (by kernel_rfl) (by kernel_rfl) @h
def s150_p4_F (K : Value → World → Prop) (B1 : List Value → World → Prop) (l : List Value) (w : World) : Prop :=
  match l with
  | [t1, t5, t9, t10, t11] => s150_p3 K B1 t1 t5 t9 t10 t11 w
  | _ => False
theorem s150_p4_Fe {K : Value → World → Prop} {B1 : List Value → World → Prop} {t1 t5 t9 t10 t11 : Value} {w : World} : s150_p4_F K B1 [t1, t5, t9, t10, t11] w = s150_p3 K B1 t1 t5 t9 t10 t11 w := by kernel_rfl
def s150_p4 (K : Value → World → Prop) (t1 t5 t9 t10 t11 : Value) (w : World) : Prop :=
  LoopL (s150_p4_F K) [t1, t5, t9, t10, t11] w
def s150_p4_den (K : Value → World → Prop) : (Nat → Value) → World → Prop := fun s w => LoopP (fun M1 s w => s150_p3_den K M1 s w) s w
theorem s150_p4_ok (K : Value → World → Prop) (s : Nat → Value) (w : World) (h : s150_p4 K (s 1) (s 5) (s 9) (s 10) (s 11) w) : Tr (s150_p4_den K s w) :=
  tr_loop (G := fun N' s w => s150_p3_den K N' s w) (F := s150_p4_F K) (sel := fun s => [s 1, s 5, s 9, s 10, s 11]) (s := s) (w := w) (p := s150_p4 K (s 1) (s 5) (s 9) (s 10) (s 11) w) (q := s150_p4_den K s w) (fun B s w h => s150_p3_ok K B s w @h) (by kernel_rfl) (by kernel_rfl) @h
def s150_p5 (K : Value → World → Prop) (t0 t1 : Value) (w : World) : Prop :=
  bsq 3 [(.int .i64 0)] 0 [] (fun t8 w =>
  lnS t0 (fun t10 w =>
  s150_p4 K t1 t8 t0 t10 (.int .i64 0) w) w) w
def s150_p5_den (K : Value → World → Prop) : (Nat → Value) → World → Prop := denL Tryz.prog [(cd (Tryz.f150.body.getD .skip) [0]), (cd (Tryz.f150.body.getD .skip) [1, 0]), (cd (Tryz.f150.body.getD .skip) [1, 1, 0, 0])] (s150_p4_den K) (fun i => (fun _ _ => False)) (s150_R K)
theorem s150_p5_ok (K : Value → World → Prop) (s : Nat → Value) (w : World) (h : s150_p5 K (s 0) (s 1) w) : Tr (s150_p5_den K s w) :=
  tr_simple (P := Tryz.prog) (codes := [(cd (Tryz.f150.body.getD .skip) [0]), (cd (Tryz.f150.body.getD .skip) [1, 0]), (cd (Tryz.f150.body.getD .skip) [1, 1, 0, 0])]) (N := (fun s w => s150_p4 K (s 1) (s 5) (s 9) (s 10) (s 11) w)) (N' := (s150_p4_den K)) (X := (fun i => (fun _ _ => False))) (X' := (fun i => (fun _ _ => False))) (R := s150_R K) (s := s) (w := w) (p := s150_p5 K (s 0) (s 1) w) (q := s150_p5_den K s w) (fun s w h => s150_p4_ok K s w @h) (fun i => tr_id) (by kernel_rfl) (by kernel_rfl) @h
/-- the call, from the text -/
theorem c150 (t0 t1 : Value) {K : Value → World → Prop} {w : World} (h : s150_p5 K t0 t1 w) : cl Tryz.prog 150 #[t0, t1] K w :=
  calls_of_tr (c := (Tryz.f150.body.getD .skip)) (fn := Tryz.f150) (q := s150_p5_den K (st0 #[t0, t1]) w) Tryz.func150 (by kernel_rfl) (by kernel_rfl) (Nat.le_of_ble_eq_true (by kernel_rfl)) (by kernel_rfl) (by kernel_rfl) (s150_p5_ok K (st0 #[t0, t1]) w @h)

/-! ### function 151 : (*e2e.enginem.State).OldestFitting -/
def s151_R (K : Value → World → Prop) (s : Nat → Value) (w : World) : Prop := retv Tryz.prog s Tryz.f151.results.toList (fun vs => K (pack vs) w) w
def s151_p1 (K : Value → World → Prop) (w : World) : Prop :=
  K (.tuple #[(.int .i64 0), (.int .i64 0)]) w
def s151_p1_den (K : Value → World → Prop) : (Nat → Value) → World → Prop := denL Tryz.prog [(cd (Tryz.f151.body.getD .skip) [1, 1, 0]), (cd (Tryz.f151.body.getD .skip) [1, 1, 1])] (fun _ _ => False) (fun i => (fun _ _ => False)) (s151_R K)
theorem s151_p1_ok (K : Value → World → Prop) (s : Nat → Value) (w : World) (h : s151_p1 K w) : Tr (s151_p1_den K s w) :=
  tr_simple (P := Tryz.prog) (codes := [(cd (Tryz.f151.body.getD .skip) [1, 1, 0]), (cd (Tryz.f151.body.getD .skip) [1, 1, 1])]) (N := (fun _ _ => False)) (N' := (fun _ _ => False)) (X := (fun i => (fun _ _ => False))) (X' := (fun i => (fun _ _ => False))) (R := s151_R K) (s := s) (w := w) (p := s151_p1 K w) (q := s151_p1_den K s w) tr_id (fun i => tr_id) (by kernel_rfl) (by kernel_rfl) @h
def s151_p2 (K : Value → World → Prop) (B1 : List Value → World → Prop) (t0 t15 t16 t17 : Value) (w : World) : Prop :=
  boI .add t17 (.int .i64 1) (fun t48 w =>
  B1 [t0, t15, t16, t48] w) w
def s151_p2_den (K : Value → World → Prop) (M1 : (Nat → Value) → World → Prop) : (Nat → Value) → World → Prop := denL Tryz.prog [(cd (Tryz.f151.body.getD .skip) [1, 0, 1, 0, 0, 1, 1, 1])] M1 (fun i => (bif Nat.beq i 0 then (s151_p1_den K) else (fun _ _ => False))) (s151_R K)
theorem s151_p2_ok (K : Value → World → Prop) (B1 : List Value → World → Prop) (s : Nat → Value) (w : World) (h : s151_p2 K B1 (s 0) (s 15) (s 16) (s 17) w) : Tr (s151_p2_den K (fun s w => B1 [s 0, s 15, s 16, s 17] w) s w) :=
  tr_simple (P := Tryz.prog) (codes := [(cd (Tryz.f151.body.getD .skip) [1, 0, 1, 0, 0, 1, 1, 1])]) (N := (fun s w => B1 [s 0, s 15, s 16, s 17] w)) (N' := (fun s w => B1 [s 0, s 15, s 16, s 17] w)) (X := (fun i => (bif Nat.beq i 0 then (fun s w => s151_p1 K w) else (fun _ _ => False)))) (X' := (fun i => (bif Nat.beq i 0 then (s151_p1_den K) else (fun _ _ => False)))) (R := s151_R K) (s := s) (w := w) (p := s151_p2 K B1 (s 0) (s 15) (s 16) (s 17) w) (q := s151_p2_den K (fun s w => B1 [s 0, s 15, s 16, s 17] w) s w) tr_id (fun i => (tr_bif (fun s w h => s151_p1_ok K s w @h) tr_id)) (by kernel_rfl) (by kernel_rfl) @h
def s151_p3 (K : Value → World → Prop) (B1 : List Value → World → Prop) (B2 : List Value → World → Prop) (t0 t7 t8 t15 t16 t17 t37 : Value) (w : World) : Prop :=
  ifb t37
  (cl Tryz.prog 152 #[t0, t7, t8] (fun t43 w =>
  cl Tryz.prog 147 #[t43] (fun t44 w =>
  boI .eql t44 (.int .i64 0) (fun t45 w =>
  ifb t45
  (K (.tuple #[t7, t8]) w)
  (boI .add t8 (.int .i64 1) (fun t39 w =>
  B2 [t0, t7, t39, t15, t16, t17] w) w)) w) w) w)
  (s151_p2 K B1 t0 t15 t16 t17 w)
def s151_p3_den (K : Value → World → Prop) (M1 : (Nat → Value) → World → Prop) (M2 : (Nat → Value) → World → Prop) : (Nat → Value) → World → Prop := denL Tryz.prog [(cd (Tryz.f151.body.getD .skip) [1, 0, 1, 0, 0, 1, 1, 0, 0, 1, 1, 0, 0, 0, 1]), (cd (Tryz.f151.body.getD .skip) [1, 0, 1, 0, 0, 1, 1, 0, 0, 1, 1, 0, 0, 1, 0]), (cd (Tryz.f151.body.getD .skip) [1, 0, 1, 0, 0, 1, 1, 0, 0, 1, 1, 0, 0, 1, 1])] M2 (fun i => (bif Nat.beq i 2 then (s151_p2_den K M1) else (bif Nat.beq i 1 then (s151_p2_den K M1) else (bif Nat.beq i 0 then (s151_p1_den K) else (fun _ _ => False))))) (s151_R K)
theorem s151_p3_ok (K : Value → World → Prop) (B1 : List Value → World → Prop) (B2 : List Value → World → Prop) (s : Nat → Value) (w : World) (h : s151_p3 K B1 B2 (s 0) (s 7) (s 8) (s 15) (s 16) (s 17) (s 37) w) : Tr (s151_p3_den K (fun s w => B1 [s 0, s 15, s 16, s 17] w) (fun s w => B2 [s 0, s 7, s 8, s 15, s 16, s 17] w) s w) :=
  tr_simple (P := Tryz.prog) (codes := [(cd (Tryz.f151.body.getD .skip) [1, 0, 1, 0, 0, 1, 1, 0, 0, 1, 1, 0, 0, 0, 1]), (cd (Tryz.f151.body.getD .skip) [1, 0, 1, 0, 0, 1, 1, 0, 0, 1, 1, 0, 0, 1, 0]), (cd (Tryz.f151.body.getD .skip) [1, 0, 1, 0, 0, 1, 1, 0, 0, 1, 1, 0, 0, 1, 1])]) (N := (fun s w => B2 [s 0, s 7, s 8, s 15, s 16, s 17] w)) (N' := (fun s w => B2 [s 0, s 7, s 8, s 15, s 16, s 17] w)) (X := (fun i => (bif Nat.beq i 2 then (fun s w => s151_p2 K B1 (s 0) (s 15) (s 16) (s 17) w) else (bif Nat.beq i 1 then (fun s w => s151_p2 K B1 (s 0) (s 15) (s 16) (s 17) w) else (bif Nat.beq i 0 then (fun s w => s151_p1 K w) else (fun _ _ => False)))))) (X' := (fun i => (bif Nat.beq i 2 then (s151_p2_den K (fun s w => B1 [s 0, s 15, s 16, s 17] w)) else (bif Nat.beq i 1 then (s151_p2_den K (fun s w => B1 [s 0, s 15, s 16, s 17] w)) else (bif Nat.beq i 0 then (s151_p1_den K) else (fun _ _ => False)))))) (R := s151_R K) (s := s) (w := w) (p := s151_p3 K B1 B2 (s 0) (s 7) (s 8) (s 15) (s 16) (s 17) (s 37) w) (q := s151_p3_den K (fun s w => B1 [s 0, s 15, s 16, s 17] w) (fun s w => B2 [s 0, s 7, s 8, s 15, s 16, s 17] w) s w) tr_id (fun i => (tr_bif (fun s w h => s151_p2_ok K B1 s w @h) (tr_bif (fun s w h => s151_p2_ok K B1 s w @h) (tr_bif (fun s w h => s151_p1_ok K s w @h) tr_id)))) (by kernel_rfl) (by kernel_rfl) @h
def s151_p4_d (K : Value → World → Prop) (B1 : List Value → World → Prop) (B2 : List Value → World → Prop) (t0 t7 t8 t15 t16 t17 : Value) (w0 w : World) : Prop :=
  nck t0 (fun t28 _ =>
  fd 14 t28 (fun t29 _ =>
  ld1 t29 (fun t30 _ =>
  nck t0 (fun t32 _ =>
  fd 0 t32 (fun t33 _ =>
  fd 9 t33 (fun t34 _ =>
  ld1 t34 (fun t35 _ =>
  boI .add t30 t35 (fun t36 _ =>
  boI .leq t8 t36 (fun t37 _ =>
  s151_p3 K B1 B2 t0 t7 t8 t15 t16 t17 t37 w) w0) w0) w0) w0) w0) w0) w0) w0) w0
def s151_p4 (K : Value → World → Prop) (B1 : List Value → World → Prop) (B2 : List Value → World → Prop) (t0 t7 t8 t15 t16 t17 : Value) (w : World) : Prop := s151_p4_d K B1 B2 t0 t7 t8 t15 t16 t17 (drw w) (drw w)
def s151_p4_den (K : Value → World → Prop) (M1 : (Nat → Value) → World → Prop) (M2 : (Nat → Value) → World → Prop) : (Nat → Value) → World → Prop := denL Tryz.prog [(cd (Tryz.f151.body.getD .skip) [1, 0, 1, 0, 0, 1, 1, 0, 0, 1, 1, 0, 0, 0, 0])] (s151_p3_den K M1 M2) (fun i => (bif Nat.beq i 2 then (s151_p2_den K M1) else (bif Nat.beq i 1 then (s151_p2_den K M1) else (bif Nat.beq i 0 then (s151_p1_den K) else (fun _ _ => False))))) (s151_R K)
theorem s151_p4_ok (K : Value → World → Prop) (B1 : List Value → World → Prop) (B2 : List Value → World → Prop) (s : Nat → Value) (w : World) (h : s151_p4 K B1 B2 (s 0) (s 7) (s 8) (s 15) (s 16) (s 17) w) : Tr (s151_p4_den K (fun s w => B1 [s 0, s 15, s 16, s 17] w) (fun s w => B2 [s 0, s 7, s 8, s 15, s 16, s 17] w) s w) :=
  tr_draw (P := Tryz.prog) (ops := (ro (cd (Tryz.f151.body.getD .skip) [1, 0, 1, 0, 0, 1, 1, 0, 0, 1, 1, 0, 0, 0, 0]))) (ms := [0, 0, 2, 6, 14, 0, 32, 96, 224, 480, 1022, 2047]) (cs := [0, 1, 2, 3, 4, 5, 6, 7, 8, 9, 10, 11]) (N := (fun s w => s151_p3 K B1 B2 (s 0) (s 7) (s 8) (s 15) (s 16) (s 17) (s 37) w)) (N' := (s151_p3_den K (fun s w => B1 [s 0, s 15, s 16, s 17] w) (fun s w => B2 [s 0, s 7, s 8, s 15, s 16, s 17] w))) (s := s) (w := w) (p := s151_p4 K B1 B2 (s 0) (s 7) (s 8) (s 15) (s 16) (s 17) w) (q := s151_p4_den K (fun s w => B1 [s 0, s 15, s 16, s 17] w) (fun s w => B2 [s 0, s 7, s 8, s 15, s 16, s 17] w) s w) (by kernel_rfl) (by kernel_rfl) (fun s w h => s151_p3_ok K B1 B2 s w @h) (by kernel_rfl) (by kernel_rfl) @h
def s151_p5_F (K : Value → World → Prop) (B1 : List Value → World → Prop) (B2 : List Value → World → Prop) (l : List Value) (w : World) : Prop :=
  match l with
  | [t0, t7, t8, t15, t16, t17] => s151_p4 K B1 B2 t0 t7 t8 t15 t16 t17 w
  | _ => False
theorem s151_p5_Fe {K : Value → World → Prop} {B1 : List Value → World → Prop} {B2 : List Value → World → Prop} {t0 t7 t8 t15 t16 t17 : Value} {w : World} : s151_p5_F K B1 B2 [t0, t7, t8, t15, t16, t17] w = s151_p4 K B1 B2 t0 t7 t8 t15 t16 t17 w := by kernel_rfl
def s151_p5 (K : Value → World → Prop) (B1 : List Value → World → Prop) (t0 t7 t8 t15 t16 t17 : Value) (w : World) : Prop :=
  LoopL (s151_p5_F K B1) [t0, t7, t8, t15, t16, t17] w
def s151_p5_den (K : Value → World → Prop) (M1 : (Nat → Value) → World → Prop) : (Nat → Value) → World → Prop := fun s w => LoopP (fun M2 s w => s151_p4_den K M1 M2 s w) s w
theorem s151_p5_ok (K : Value → World → Prop) (B1 : List Value → World → Prop) (s : Nat → Value) (w : World) (h : s151_p5 K B1 (s 0) (s 7) (s 8) (s 15) (s 16) (s 17) w) : Tr (s151_p5_den K (fun s w => B1 [s 0, s 15, s 16, s 17] w) s w) :=
  tr_loop (G := fun N' s w => s151_p4_den K (fun s w => B1 [s 0, s 15, s 16, s 17] w) N' s w) (F := s151_p5_F K B1) (sel := fun s => [s 0, s 7, s 8, s 15, s 16, s 17]) (s := s) (w := w) (p := s151_p5 K B1 (s 0) (s 7) (s 8) (s 15) (s 16) (s 17) w) (q := s151_p5_den K (fun s w => B1 [s 0, s 15, s 16, s 17] w) s w) (fun B s w h => s151_p4_ok K B1 B s w @h) (by kernel_rfl) (by kernel_rfl) @h
def s151_p6 (K : Value → World → Prop) (B1 : List Value → World → Prop) (t0 t15 t16 t17 : Value) (w : World) : Prop :=
  ixs 1 t15 t17 (fun t19 w =>
  ld1 t19 (fun t20 w =>
  nck t0 (fun t22 w =>
  fd 14 t22 (fun t23 w =>
  ld1 t23 (fun t24 w =>
  boI .add t24 (.int .i64 1) (fun t25 w =>
  s151_p5 K B1 t0 t20 t25 t15 t16 t17 w) w) w) w) w) w) w
def s151_p6_den (K : Value → World → Prop) (M1 : (Nat → Value) → World → Prop) : (Nat → Value) → World → Prop := denL Tryz.prog [(cd (Tryz.f151.body.getD .skip) [1, 0, 1, 0, 0, 1, 1, 0, 0, 0]), (cd (Tryz.f151.body.getD .skip) [1, 0, 1, 0, 0, 1, 1, 0, 0, 1, 0])] (s151_p5_den K M1) (fun i => (bif Nat.beq i 1 then (s151_p2_den K M1) else (bif Nat.beq i 0 then (s151_p1_den K) else (fun _ _ => False)))) (s151_R K)
theorem s151_p6_ok (K : Value → World → Prop) (B1 : List Value → World → Prop) (s : Nat → Value) (w : World) (h : s151_p6 K B1 (s 0) (s 15) (s 16) (s 17) w) : Tr (s151_p6_den K (fun s w => B1 [s 0, s 15, s 16, s 17] w) s w) :=
  tr_simple (P := Tryz.prog) (codes := [(cd (Tryz.f151.body.getD .skip) [1, 0, 1, 0, 0, 1, 1, 0, 0, 0]), (cd (Tryz.f151.body.getD .skip) [1, 0, 1, 0, 0, 1, 1, 0, 0, 1, 0])]) (N := (fun s w => s151_p5 K B1 (s 0) (s 7) (s 8) (s 15) (s 16) (s 17) w)) (N' := (s151_p5_den K (fun s w => B1 [s 0, s 15, s 16, s 17] w))) (X := (fun i => (bif Nat.beq i 1 then (fun s w => s151_p2 K B1 (s 0) (s 15) (s 16) (s 17) w) else (bif Nat.beq i 0 then (fun s w => s151_p1 K w) else (fun _ _ => False))))) (X' := (fun i => (bif Nat.beq i 1 then (s151_p2_den K (fun s w => B1 [s 0, s 15, s 16, s 17] w)) else (bif Nat.beq i 0 then (s151_p1_den K) else (fun _ _ => False))))) (R := s151_R K) (s := s) (w := w) (p := s151_p6 K B1 (s 0) (s 15) (s 16) (s 17) w) (q := s151_p6_den K (fun s w => B1 [s 0, s 15, s 16, s 17] w) s w) (fun s w h => s151_p5_ok K B1 s w @h) (fun i => (tr_bif (fun s w h => s151_p2_ok K B1 s w @h) (tr_bif (fun s w h => s151_p1_ok K s w @h) tr_id))) (by kernel_rfl) (by kernel_rfl) @h
def s151_p7 (K : Value → World → Prop) (B1 : List Value → World → Prop) (t0 t15 t16 t17 : Value) (w : World) : Prop :=
  boI .lss t17 t16 (fun t18 w =>
  ifb t18
  (s151_p6 K B1 t0 t15 t16 t17 w)
  (s151_p1 K w)) w
def s151_p7_den (K : Value → World → Prop) (M1 : (Nat → Value) → World → Prop) : (Nat → Value) → World → Prop := denL Tryz.prog [(cd (Tryz.f151.body.getD .skip) [1, 0, 1, 0, 0, 0]), (cd (Tryz.f151.body.getD .skip) [1, 0, 1, 0, 0, 1, 0])] (s151_p6_den K M1) (fun i => (bif Nat.beq i 0 then (s151_p1_den K) else (fun _ _ => False))) (s151_R K)
theorem s151_p7_ok (K : Value → World → Prop) (B1 : List Value → World → Prop) (s : Nat → Value) (w : World) (h : s151_p7 K B1 (s 0) (s 15) (s 16) (s 17) w) : Tr (s151_p7_den K (fun s w => B1 [s 0, s 15, s 16, s 17] w) s w) :=
  tr_simple (P := Tryz.prog) (codes := [(cd (Tryz.f151.body.getD .skip) [1, 0, 1, 0, 0, 0]), (cd (Tryz.f151.body.getD .skip) [1, 0, 1, 0, 0, 1, 0])]) (N := (fun s w => s151_p6 K B1 (s 0) (s 15) (s 16) (s 17) w)) (N' := (s151_p6_den K (fun s w => B1 [s 0, s 15, s 16, s 17] w))) (X := (fun i => (bif Nat.beq i 0 then (fun s w => s151_p1 K w) else (fun _ _ => False)))) (X' := (fun i => (bif Nat.beq i 0 then (s151_p1_den K) else (fun _ _ => False)))) (R := s151_R K) (s := s) (w := w) (p := s151_p7 K B1 (s 0) (s 15) (s 16) (s 17) w) (q := s151_p7_den K (fun s w => B1 [s 0, s 15, s 16, s 17] w) s w) (fun s w h => s151_p6_ok K B1 s w @h) (fun i => (tr_bif (fun s w h => s151_p1_ok K s w @h) tr_id)) (by kernel_rfl) (by kernel_rfl) @h
def s151_p8_F (K : Value → World → Prop) (B1 : List Value → World → Prop) (l : List Value) (w : World) : Prop :=
  match l with
  | [t0, t15, t16, t17] => s151_p7 K B1 t0 t15 t16 t17 w
  | _ => False
theorem s151_p8_Fe {K : Value → World → Prop} {B1 : List Value → World → Prop} {t0 t15 t16 t17 : Value} {w : World} : s151_p8_F K B1 [t0, t15, t16, t17] w = s151_p7 K B1 t0 t15 t16 t17 w := by kernel_rfl
def s151_p8 (K : Value → World → Prop) (t0 t15 t16 t17 : Value) (w : World) : Prop :=
  LoopL (s151_p8_F K) [t0, t15, t16, t17] w
def s151_p8_den (K : Value → World → Prop) : (Nat → Value) → World → Prop := fun s w => LoopP (fun M1 s w => s151_p7_den K M1 s w) s w
theorem s151_p8_ok (K : Value → World → Prop) (s : Nat → Value) (w : World) (h : s151_p8 K (s 0) (s 15) (s 16) (s 17) w) : Tr (s151_p8_den K s w) :=
  tr_loop (G := fun N' s w => s151_p7_den K N' s w) (F := s151_p8_F K) (sel := fun s => [s 0, s 15, s 16, s 17]) (s := s) (w := w) (p := s151_p8 K (s 0) (s 15) (s 16) (s 17) w) (q := s151_p8_den K s w) (fun B s w h => s151_p7_ok K B s w @h) (by kernel_rfl) (by kernel_rfl) @h
def s151_p9 (K : Value → World → Prop) (t0 t1 : Value) (w : World) : Prop :=
  nck t0 (fun t10 w =>
  fd 16 t10 (fun t11 w =>
  ld1 t11 (fun t12 w =>
  ixs 1 t12 t1 (fun t14 w =>
  ld1 t14 (fun t15 w =>
  lnS t15 (fun t16 w =>
  s151_p8 K t0 t15 t16 (.int .i64 0) w) w) w) w) w) w) w
def s151_p9_den (K : Value → World → Prop) : (Nat → Value) → World → Prop := denL Tryz.prog [(cd (Tryz.f151.body.getD .skip) [0]), (cd (Tryz.f151.body.getD .skip) [1, 0, 0])] (s151_p8_den K) (fun i => (fun _ _ => False)) (s151_R K)
theorem s151_p9_ok (K : Value → World → Prop) (s : Nat → Value) (w : World) (h : s151_p9 K (s 0) (s 1) w) : Tr (s151_p9_den K s w) :=
  tr_simple (P := Tryz.prog) (codes := [(cd (Tryz.f151.body.getD .skip) [0]), (cd (Tryz.f151.body.getD .skip) [1, 0, 0])]) (N := (fun s w => s151_p8 K (s 0) (s 15) (s 16) (s 17) w)) (N' := (s151_p8_den K)) (X := (fun i => (fun _ _ => False))) (X' := (fun i => (fun _ _ => False))) (R := s151_R K) (s := s) (w := w) (p := s151_p9 K (s 0) (s 1) w) (q := s151_p9_den K s w) (fun s w h => s151_p8_ok K s w @h) (fun i => tr_id) (by kernel_rfl) (by kernel_rfl) @h
/-- the call, from the text -/
theorem c151 (t0 t1 : Value) {K : Value → World → Prop} {w : World} (h : s151_p9 K t0 t1 w) : cl Tryz.prog 151 #[t0, t1] K w :=
  calls_of_tr (c := (Tryz.f151.body.getD .skip)) (fn := Tryz.f151) (q := s151_p9_den K (st0 #[t0, t1]) w) Tryz.func151 (by kernel_rfl) (by kernel_rfl) (Nat.le_of_ble_eq_true (by kernel_rfl)) (by kernel_rfl) (by kernel_rfl) (s151_p9_ok K (st0 #[t0, t1]) w @h)

/-! ### function 152 : (*e2e.enginem.State).issued -/
def s152_R (K : Value → World → Prop) (s : Nat → Value) (w : World) : Prop := retv Tryz.prog s Tryz.f152.results.toList (fun vs => K (pack vs) w) w
def s152_p1 (K : Value → World → Prop) (t7 : Value) (w : World) : Prop :=
  K t7 w
def s152_p1_den (K : Value → World → Prop) : (Nat → Value) → World → Prop := denL Tryz.prog [(cd (Tryz.f152.body.getD .skip) [1, 1, 1, 1, 1, 1, 1, 0]), (cd (Tryz.f152.body.getD .skip) [1, 1, 1, 1, 1, 1, 1, 1])] (fun _ _ => False) (fun i => (fun _ _ => False)) (s152_R K)
theorem s152_p1_ok (K : Value → World → Prop) (s : Nat → Value) (w : World) (h : s152_p1 K (s 7) w) : Tr (s152_p1_den K s w) :=
  tr_simple (P := Tryz.prog) (codes := [(cd (Tryz.f152.body.getD .skip) [1, 1, 1, 1, 1, 1, 1, 0]), (cd (Tryz.f152.body.getD .skip) [1, 1, 1, 1, 1, 1, 1, 1])]) (N := (fun _ _ => False)) (N' := (fun _ _ => False)) (X := (fun i => (fun _ _ => False))) (X' := (fun i => (fun _ _ => False))) (R := s152_R K) (s := s) (w := w) (p := s152_p1 K (s 7) w) (q := s152_p1_den K s w) tr_id (fun i => tr_id) (by kernel_rfl) (by kernel_rfl) @h
def s152_p2_d (K : Value → World → Prop) (t1 t7 t9 : Value) (w0 w : World) : Prop :=
  nck t7 (fun t35 _ =>
  fd 16 t35 (fun t36 _ =>
  ld1 t36 (fun t37 _ =>
  nck t7 (fun t40 _ =>
  fd 16 t40 (fun t41 _ =>
  ld1 t41 (fun t42 _ =>
  ixs 1 t42 t9 (fun t44 _ =>
  ld1 t44 (fun t45 _ =>
  ixs 1 t37 t9 (fun t48 _ =>
  cl Tryz.prog 150 #[t45, t1] (fun t47 w =>
  Below w0.heap.size w0 w ∧
  st1 t48 t47 (fun w =>
  s152_p1 K t7 w) w) w) w0) w0) w0) w0) w0) w0) w0) w0) w0
def s152_p2 (K : Value → World → Prop) (t1 t7 t9 : Value) (w : World) : Prop := s152_p2_d K t1 t7 t9 (drw w) (drw w)
def s152_p2_den (K : Value → World → Prop) : (Nat → Value) → World → Prop := denL Tryz.prog [(cd (Tryz.f152.body.getD .skip) [1, 1, 1, 1, 1, 1, 0])] (s152_p1_den K) (fun i => (fun _ _ => False)) (s152_R K)
theorem s152_p2_ok (K : Value → World → Prop) (s : Nat → Value) (w : World) (h : s152_p2 K (s 1) (s 7) (s 9) w) : Tr (s152_p2_den K s w) :=
  tr_draw (P := Tryz.prog) (ops := (ro (cd (Tryz.f152.body.getD .skip) [1, 1, 1, 1, 1, 1, 0]))) (ms := [0, 1, 3, 7, 0, 0, 32, 96, 224, 0, 992, 2016, 0, 8160, 16383, 32767]) (cs := [0, 1, 2, 3, 4, 5, 6, 7, 8, 9, 10, 11, 12, 14]) (N := (fun s w => s152_p1 K (s 7) w)) (N' := (s152_p1_den K)) (s := s) (w := w) (p := s152_p2 K (s 1) (s 7) (s 9) w) (q := s152_p2_den K s w) (by kernel_rfl) (by kernel_rfl) (fun s w h => s152_p1_ok K s w @h) (by kernel_rfl) (by kernel_rfl) @h
def s152_p3 (K : Value → World → Prop) (t0 t1 t2 : Value) (w : World) : Prop :=
  cl Tryz.prog 149 #[t0] (fun t11 w =>
  nck t11 (fun t13 w =>
  fd 15 t13 (fun t14 w =>
  ld1 t14 (fun t15 w =>
  boI .sub t1 (.int .i64 1) (fun t17 w =>
  ixs 7 t15 t17 (fun t18 w =>
  nck t18 (fun t20 w =>
  fd 4 t20 (fun t21 w =>
  ld1 t21 (fun t22 w =>
  boI .sub t22 (.int .i64 1) (fun t23 w =>
  nck t18 (fun t25 w =>
  fd 1 t25 (fun t26 w =>
  st1 t26 (.int .i64 8) (fun w =>
  bdq [(.int .i64 0), (.int .i64 0)] [(some (0, 1), t23), (some (1, 1), t2)] (fun t30 w =>
  bsq 88 [(.int .i64 0), (.int .i64 0)] 1 [(some (0, 2), t30)] (fun t31 w =>
  nck t18 (fun t32 w =>
  fd 6 t32 (fun t33 w =>
  st1 t33 t31 (fun w =>
  s152_p2 K t1 t11 t23 w) w) w) w) w) w) w) w) w) w) w) w) w) w) w) w) w) w) w
def s152_p3_den (K : Value → World → Prop) : (Nat → Value) → World → Prop := denL Tryz.prog [(cd (Tryz.f152.body.getD .skip) [0]), (cd (Tryz.f152.body.getD .skip) [1, 0]), (cd (Tryz.f152.body.getD .skip) [1, 1, 0]), (cd (Tryz.f152.body.getD .skip) [1, 1, 1, 0]), (cd (Tryz.f152.body.getD .skip) [1, 1, 1, 1, 0]), (cd (Tryz.f152.body.getD .skip) [1, 1, 1, 1, 1, 0])] (s152_p2_den K) (fun i => (fun _ _ => False)) (s152_R K)
theorem s152_p3_ok (K : Value → World → Prop) (s : Nat → Value) (w : World) (h : s152_p3 K (s 0) (s 1) (s 2) w) : Tr (s152_p3_den K s w) :=
  tr_simple (P := Tryz.prog) (codes := [(cd (Tryz.f152.body.getD .skip) [0]), (cd (Tryz.f152.body.getD .skip) [1, 0]), (cd (Tryz.f152.body.getD .skip) [1, 1, 0]), (cd (Tryz.f152.body.getD .skip) [1, 1, 1, 0]), (cd (Tryz.f152.body.getD .skip) [1, 1, 1, 1, 0]), (cd (Tryz.f152.body.getD .skip) [1, 1, 1, 1, 1, 0])]) (N := (fun s w => s152_p2 K (s 1) (s 7) (s 9) w)) (N' := (s152_p2_den K)) (X := (fun i => (fun _ _ => False))) (X' := (fun i => (fun _ _ => False))) (R := s152_R K) (s := s) (w := w) (p := s152_p3 K (s 0) (s 1) (s 2) w) (q := s152_p3_den K s w) (fun s w h => s152_p2_ok K s w @h) (fun i => tr_id) (by kernel_rfl) (by kernel_rfl) @h
/-- the call, from the text -/
theorem c152 (t0 t1 t2 : Value) {K : Value → World → Prop} {w : World} (h : s152_p3 K t0 t1 t2 w) : cl Tryz.prog 152 #[t0, t1, t2] K w :=
  calls_of_tr (c := (Tryz.f152.body.getD .skip)) (fn := Tryz.f152) (q := s152_p3_den K (st0 #[t0, t1, t2]) w) Tryz.func152 (by kernel_rfl) (by kernel_rfl) (Nat.le_of_ble_eq_true (by kernel_rfl)) (by kernel_rfl) (by kernel_rfl) (s152_p3_ok K (st0 #[t0, t1, t2]) w @h)

/-! ### function 153 : e2e.enginem.row -/
def s153_R (K : Value → World → Prop) (s : Nat → Value) (w : World) : Prop := retv Tryz.prog s Tryz.f153.results.toList (fun vs => K (pack vs) w) w
def s153_p1 (K : Value → World → Prop) (t3 : Value) (w : World) : Prop :=
  K t3 w
def s153_p1_den (K : Value → World → Prop) : (Nat → Value) → World → Prop := denL Tryz.prog [(cd (Tryz.f153.body.getD .skip) [1, 1, 1, 0]), (cd (Tryz.f153.body.getD .skip) [1, 1, 1, 1])] (fun _ _ => False) (fun i => (fun _ _ => False)) (s153_R K)
theorem s153_p1_ok (K : Value → World → Prop) (s : Nat → Value) (w : World) (h : s153_p1 K (s 3) w) : Tr (s153_p1_den K s w) :=
  tr_simple (P := Tryz.prog) (codes := [(cd (Tryz.f153.body.getD .skip) [1, 1, 1, 0]), (cd (Tryz.f153.body.getD .skip) [1, 1, 1, 1])]) (N := (fun _ _ => False)) (N' := (fun _ _ => False)) (X := (fun i => (fun _ _ => False))) (X' := (fun i => (fun _ _ => False))) (R := s153_R K) (s := s) (w := w) (p := s153_p1 K (s 3) w) (q := s153_p1_den K s w) tr_id (fun i => tr_id) (by kernel_rfl) (by kernel_rfl) @h
def s153_p2 (K : Value → World → Prop) (B1 : List Value → World → Prop) (t3 t23 t24 t25 : Value) (w : World) : Prop :=
  boI .lss t25 t24 (fun t26 w =>
  ifb t26
  (ixs 2 t23 t25 (fun t27 w =>
  ldn 2 t27 (fun t28 w =>
  nw 88 #[(.int .i64 0), (.int .i64 0)] (fun t5 w =>
  stn 2 t5 t28 (fun w =>
  fd 0 t5 (fun t30 w =>
  ld1 t30 (fun t31 w =>
  fd 1 t5 (fun t32 w =>
  ld1 t32 (fun t33 w =>
  bsq 3 [(.int .i64 0)] 2 [(some (0, 1), t31), (some (1, 1), t33)] (fun t34 w =>
  apq 3 [(.int .i64 0)] 8 t3 t34 (fun t35 w =>
  boI .add t25 (.int .i64 1) (fun t36 w =>
  B1 [t35, t23, t24, t36] w) w) w) w) w) w) w) w) w) w) w) w)
  (s153_p1 K t3 w)) w
def s153_p2_den (K : Value → World → Prop) (M1 : (Nat → Value) → World → Prop) : (Nat → Value) → World → Prop := denL Tryz.prog [(cd (Tryz.f153.body.getD .skip) [1, 1, 0, 1, 0, 0, 0]), (cd (Tryz.f153.body.getD .skip) [1, 1, 0, 1, 0, 0, 1, 0]), (cd (Tryz.f153.body.getD .skip) [1, 1, 0, 1, 0, 0, 1, 1, 0]), (cd (Tryz.f153.body.getD .skip) [1, 1, 0, 1, 0, 0, 1, 1, 1])] M1 (fun i => (bif Nat.beq i 0 then (s153_p1_den K) else (fun _ _ => False))) (s153_R K)
theorem s153_p2_ok (K : Value → World → Prop) (B1 : List Value → World → Prop) (s : Nat → Value) (w : World) (h : s153_p2 K B1 (s 3) (s 23) (s 24) (s 25) w) : Tr (s153_p2_den K (fun s w => B1 [s 3, s 23, s 24, s 25] w) s w) :=
  tr_simple (P := Tryz.prog) (codes := [(cd (Tryz.f153.body.getD .skip) [1, 1, 0, 1, 0, 0, 0]), (cd (Tryz.f153.body.getD .skip) [1, 1, 0, 1, 0, 0, 1, 0]), (cd (Tryz.f153.body.getD .skip) [1, 1, 0, 1, 0, 0, 1, 1, 0]), (cd (Tryz.f153.body.getD .skip) [1, 1, 0, 1, 0, 0, 1, 1, 1])]) (N := (fun s w => B1 [s 3, s 23, s 24, s 25] w)) (N' := (fun s w => B1 [s 3, s 23, s 24, s 25] w)) (X := (fun i => (bif Nat.beq i 0 then (fun s w => s153_p1 K (s 3) w) else (fun _ _ => False)))) (X' := (fun i => (bif Nat.beq i 0 then (s153_p1_den K) else (fun _ _ => False)))) (R := s153_R K) (s := s) (w := w) (p := s153_p2 K B1 (s 3) (s 23) (s 24) (s 25) w) (q := s153_p2_den K (fun s w => B1 [s 3, s 23, s 24, s 25] w) s w) tr_id (fun i => (tr_bif (fun s w h => s153_p1_ok K s w @h) tr_id)) (by kernel_rfl) (by kernel_rfl) @h
def s153_p3_F (K : Value → World → Prop) (B1 : List Value → World → Prop) (l : List Value) (w : World) : Prop :=
  match l with
  | [t3, t23, t24, t25] => s153_p2 K B1 t3 t23 t24 t25 w
  | _ => False
theorem s153_p3_Fe {K : Value → World → Prop} {B1 : List Value → World → Prop} {t3 t23 t24 t25 : Value} {w : World} : s153_p3_F K B1 [t3, t23, t24, t25] w = s153_p2 K B1 t3 t23 t24 t25 w := by kernel_rfl
def s153_p3 (K : Value → World → Prop) (t3 t23 t24 t25 : Value) (w : World) : Prop :=
  LoopL (s153_p3_F K) [t3, t23, t24, t25] w
def s153_p3_den (K : Value → World → Prop) : (Nat → Value) → World → Prop := fun s w => LoopP (fun M1 s w => s153_p2_den K M1 s w) s w
theorem s153_p3_ok (K : Value → World → Prop) (s : Nat → Value) (w : World) (h : s153_p3 K (s 3) (s 23) (s 24) (s 25) w) : Tr (s153_p3_den K s w) :=
  tr_loop (G := fun N' s w => s153_p2_den K N' s w) (F := s153_p3_F K) (sel := fun s => [s 3, s 23, s 24, s 25]) (s := s) (w := w) (p := s153_p3 K (s 3) (s 23) (s 24) (s 25) w) (q := s153_p3_den K s w) (fun B s w h => s153_p2_ok K B s w @h) (by kernel_rfl) (by kernel_rfl) @h
def s153_p4 (K : Value → World → Prop) (t0 : Value) (w : World) : Prop :=
  nw 85 (t0).cells (fun t1 w =>
  fd 0 t1 (fun t6 w =>
  ld1 t6 (fun t7 w =>
  fd 1 t1 (fun t8 w =>
  ld1 t8 (fun t9 w =>
  fd 2 t1 (fun t10 w =>
  ld1 t10 (fun t11 w =>
  fd 3 t1 (fun t12 w =>
  ld1 t12 (fun t13 w =>
  fd 4 t1 (fun t14 w =>
  ld1 t14 (fun t15 w =>
  fd 5 t1 (fun t16 w =>
  ld1 t16 (fun t17 w =>
  fd 6 t1 (fun t18 w =>
  ld1 t18 (fun t19 w =>
  lnS t19 (fun t20 w =>
  bsq 3 [(.int .i64 0)] 7 [(some (0, 1), t7), (some (1, 1), t9), (some (2, 1), t11), (some (3, 1), t13), (some (4, 1), t15), (some (5, 1), t17), (some (6, 1), t20)] (fun t21 w =>
  fd 6 t1 (fun t22 w =>
  ld1 t22 (fun t23 w =>
  lnS t23 (fun t24 w =>
  s153_p3 K t21 t23 t24 (.int .i64 0) w) w) w) w) w) w) w) w) w) w) w) w) w) w) w) w) w) w) w) w) w
def s153_p4_den (K : Value → World → Prop) : (Nat → Value) → World → Prop := denL Tryz.prog [(cd (Tryz.f153.body.getD .skip) [0]), (cd (Tryz.f153.body.getD .skip) [1, 0]), (cd (Tryz.f153.body.getD .skip) [1, 1, 0, 0])] (s153_p3_den K) (fun i => (fun _ _ => False)) (s153_R K)
theorem s153_p4_ok (K : Value → World → Prop) (s : Nat → Value) (w : World) (h : s153_p4 K (s 0) w) : Tr (s153_p4_den K s w) :=
  tr_simple (P := Tryz.prog) (codes := [(cd (Tryz.f153.body.getD .skip) [0]), (cd (Tryz.f153.body.getD .skip) [1, 0]), (cd (Tryz.f153.body.getD .skip) [1, 1, 0, 0])]) (N := (fun s w => s153_p3 K (s 3) (s 23) (s 24) (s 25) w)) (N' := (s153_p3_den K)) (X := (fun i => (fun _ _ => False))) (X' := (fun i => (fun _ _ => False))) (R := s153_R K) (s := s) (w := w) (p := s153_p4 K (s 0) w) (q := s153_p4_den K s w) (fun s w h => s153_p3_ok K s w @h) (fun i => tr_id) (by kernel_rfl) (by kernel_rfl) @h
/-- the call, from the text -/
theorem c153 (t0 : Value) {K : Value → World → Prop} {w : World} (h : s153_p4 K t0 w) : cl Tryz.prog 153 #[t0] K w :=
  calls_of_tr (c := (Tryz.f153.body.getD .skip)) (fn := Tryz.f153) (q := s153_p4_den K (st0 #[t0]) w) Tryz.func153 (by kernel_rfl) (by kernel_rfl) (Nat.le_of_ble_eq_true (by kernel_rfl)) (by kernel_rfl) (by kernel_rfl) (s153_p4_ok K (st0 #[t0]) w @h)

/-! ### function 154 : (*e2e.enginem.State).open -/
def s154_R (K : Value → World → Prop) (s : Nat → Value) (w : World) : Prop := retv Tryz.prog s Tryz.f154.results.toList (fun vs => K (pack vs) w) w
def s154_p1 (K : Value → World → Prop) (t4 : Value) (w : World) : Prop :=
  K t4 w
def s154_p1_den (K : Value → World → Prop) : (Nat → Value) → World → Prop := denL Tryz.prog [(cd (Tryz.f154.body.getD .skip) [1, 1])] (fun _ _ => False) (fun i => (fun _ _ => False)) (s154_R K)
theorem s154_p1_ok (K : Value → World → Prop) (s : Nat → Value) (w : World) (h : s154_p1 K (s 4) w) : Tr (s154_p1_den K s w) :=
  tr_simple (P := Tryz.prog) (codes := [(cd (Tryz.f154.body.getD .skip) [1, 1])]) (N := (fun _ _ => False)) (N' := (fun _ _ => False)) (X := (fun i => (fun _ _ => False))) (X' := (fun i => (fun _ _ => False))) (R := s154_R K) (s := s) (w := w) (p := s154_p1 K (s 4) w) (q := s154_p1_den K s w) tr_id (fun i => tr_id) (by kernel_rfl) (by kernel_rfl) @h
def s154_p2_d (K : Value → World → Prop) (t0 t1 : Value) (w0 w : World) : Prop :=
  nck t0 (fun t6 _ =>
  fd 14 t6 (fun t7 _ =>
  ld1 t7 (fun t8 _ =>
  boI .leq t8 t1 (fun t10 _ =>
  gd t10 true (fun K w => K t1 w) (fun t12 _ =>
  gd t10 true (fun K w => K t0 w) (fun t13 _ =>
  gd t10 true (nck t13) (fun t14 _ =>
  gd t10 true (fd 14 t14) (fun t15 _ =>
  gd t10 true (ld1 t15) (fun t16 _ =>
  gd t10 true (fun K w => K t0 w) (fun t17 _ =>
  gd t10 true (nck t17) (fun t18 _ =>
  gd t10 true (fd 0 t18) (fun t19 _ =>
  gd t10 true (fd 2 t19) (fun t20 _ =>
  gd t10 true (ld1 t20) (fun t21 _ =>
  gd t10 true (boI .add t16 t21) (fun t22 _ =>
  gd t10 true (boI .lss t12 t22) (fun t23 _ =>
  pk t10 t23 (.bool false) (fun t24 _ =>
  s154_p1 K t24 w) w0) w0) w0) w0) w0) w0) w0) w0) w0) w0) w0) w0) w0) w0) w0) w0) w0
def s154_p2 (K : Value → World → Prop) (t0 t1 : Value) (w : World) : Prop := s154_p2_d K t0 t1 (drw w) (drw w)
def s154_p2_den (K : Value → World → Prop) : (Nat → Value) → World → Prop := denL Tryz.prog [(cd (Tryz.f154.body.getD .skip) [1, 0])] (s154_p1_den K) (fun i => (fun _ _ => False)) (s154_R K)
theorem s154_p2_ok (K : Value → World → Prop) (s : Nat → Value) (w : World) (h : s154_p2 K (s 0) (s 1) w) : Tr (s154_p2_den K s w) :=
  tr_draw (P := Tryz.prog) (ops := (ro (cd (Tryz.f154.body.getD .skip) [1, 0]))) (ms := [0, 1, 3, 7, 0, 31, 63, 127, 127, 383, 895, 1919, 127, 4223, 12415, 28799, 61567, 130943, 262143, 524287, 1048575]) (cs := [0, 1, 2, 3, 4, 5, 6, 7, 8, 9, 10, 11, 12, 13, 14, 15, 16, 17, 18, 19, 20]) (N := (fun s w => s154_p1 K (s 4) w)) (N' := (s154_p1_den K)) (s := s) (w := w) (p := s154_p2 K (s 0) (s 1) w) (q := s154_p2_den K s w) (by kernel_rfl) (by kernel_rfl) (fun s w h => s154_p1_ok K s w @h) (by kernel_rfl) (by kernel_rfl) @h
def s154_p3 (K : Value → World → Prop) (t0 t1 : Value) (w : World) : Prop :=
  s154_p2 K t0 t1 w
def s154_p3_den (K : Value → World → Prop) : (Nat → Value) → World → Prop := denL Tryz.prog [(cd (Tryz.f154.body.getD .skip) [0])] (s154_p2_den K) (fun i => (fun _ _ => False)) (s154_R K)
theorem s154_p3_ok (K : Value → World → Prop) (s : Nat → Value) (w : World) (h : s154_p3 K (s 0) (s 1) w) : Tr (s154_p3_den K s w) :=
  tr_simple (P := Tryz.prog) (codes := [(cd (Tryz.f154.body.getD .skip) [0])]) (N := (fun s w => s154_p2 K (s 0) (s 1) w)) (N' := (s154_p2_den K)) (X := (fun i => (fun _ _ => False))) (X' := (fun i => (fun _ _ => False))) (R := s154_R K) (s := s) (w := w) (p := s154_p3 K (s 0) (s 1) w) (q := s154_p3_den K s w) (fun s w h => s154_p2_ok K s w @h) (fun i => tr_id) (by kernel_rfl) (by kernel_rfl) @h
/-- the call, from the text -/
theorem c154 (t0 t1 : Value) {K : Value → World → Prop} {w : World} (h : s154_p3 K t0 t1 w) : cl Tryz.prog 154 #[t0, t1] K w :=
  calls_of_tr (c := (Tryz.f154.body.getD .skip)) (fn := Tryz.f154) (q := s154_p3_den K (st0 #[t0, t1]) w) Tryz.func154 (by kernel_rfl) (by kernel_rfl) (Nat.le_of_ble_eq_true (by kernel_rfl)) (by kernel_rfl) (by kernel_rfl) (s154_p3_ok K (st0 #[t0, t1]) w @h)

/-! ### function 155 : (*e2e.enginem.State).Occupancy -/
def s155_R (K : Value → World → Prop) (s : Nat → Value) (w : World) : Prop := retv Tryz.prog s Tryz.f155.results.toList (fun vs => K (pack vs) w) w
def s155_p1 (K : Value → World → Prop) (t7 : Value) (w : World) : Prop :=
  K t7 w
def s155_p1_den (K : Value → World → Prop) : (Nat → Value) → World → Prop := denL Tryz.prog [(cd (Tryz.f155.body.getD .skip) [1, 1, 1, 0]), (cd (Tryz.f155.body.getD .skip) [1, 1, 1, 1])] (fun _ _ => False) (fun i => (fun _ _ => False)) (s155_R K)
theorem s155_p1_ok (K : Value → World → Prop) (s : Nat → Value) (w : World) (h : s155_p1 K (s 7) w) : Tr (s155_p1_den K s w) :=
  tr_simple (P := Tryz.prog) (codes := [(cd (Tryz.f155.body.getD .skip) [1, 1, 1, 0]), (cd (Tryz.f155.body.getD .skip) [1, 1, 1, 1])]) (N := (fun _ _ => False)) (N' := (fun _ _ => False)) (X := (fun i => (fun _ _ => False))) (X' := (fun i => (fun _ _ => False))) (R := s155_R K) (s := s) (w := w) (p := s155_p1 K (s 7) w) (q := s155_p1_den K s w) tr_id (fun i => tr_id) (by kernel_rfl) (by kernel_rfl) @h
def s155_p2 (K : Value → World → Prop) (B1 : List Value → World → Prop) (t0 t1 t2 t7 t15 t16 t17 : Value) (w : World) : Prop :=
  boI .add t17 (.int .i64 1) (fun t64 w =>
  B1 [t0, t1, t2, t7, t15, t16, t64] w) w
def s155_p2_den (K : Value → World → Prop) (M1 : (Nat → Value) → World → Prop) : (Nat → Value) → World → Prop := denL Tryz.prog [(cd (Tryz.f155.body.getD .skip) [1, 1, 0, 1, 0, 0, 1, 1, 1])] M1 (fun i => (bif Nat.beq i 0 then (s155_p1_den K) else (fun _ _ => False))) (s155_R K)
theorem s155_p2_ok (K : Value → World → Prop) (B1 : List Value → World → Prop) (s : Nat → Value) (w : World) (h : s155_p2 K B1 (s 0) (s 1) (s 2) (s 7) (s 15) (s 16) (s 17) w) : Tr (s155_p2_den K (fun s w => B1 [s 0, s 1, s 2, s 7, s 15, s 16, s 17] w) s w) :=
  tr_simple (P := Tryz.prog) (codes := [(cd (Tryz.f155.body.getD .skip) [1, 1, 0, 1, 0, 0, 1, 1, 1])]) (N := (fun s w => B1 [s 0, s 1, s 2, s 7, s 15, s 16, s 17] w)) (N' := (fun s w => B1 [s 0, s 1, s 2, s 7, s 15, s 16, s 17] w)) (X := (fun i => (bif Nat.beq i 0 then (fun s w => s155_p1 K (s 7) w) else (fun _ _ => False)))) (X' := (fun i => (bif Nat.beq i 0 then (s155_p1_den K) else (fun _ _ => False)))) (R := s155_R K) (s := s) (w := w) (p := s155_p2 K B1 (s 0) (s 1) (s 2) (s 7) (s 15) (s 16) (s 17) w) (q := s155_p2_den K (fun s w => B1 [s 0, s 1, s 2, s 7, s 15, s 16, s 17] w) s w) tr_id (fun i => (tr_bif (fun s w h => s155_p1_ok K s w @h) tr_id)) (by kernel_rfl) (by kernel_rfl) @h
def s155_p3 (K : Value → World → Prop) (B1 : List Value → World → Prop) (B2 : List Value → World → Prop) (t0 t1 t2 t7 t9 t15 t16 t17 t22 t23 t24 : Value) (w : World) : Prop :=
  boI .add t24 (.int .i64 1) (fun t63 w =>
  B2 [t0, t1, t2, t7, t9, t15, t16, t17, t22, t23, t63] w) w
def s155_p3_den (K : Value → World → Prop) (M1 : (Nat → Value) → World → Prop) (M2 : (Nat → Value) → World → Prop) : (Nat → Value) → World → Prop := denL Tryz.prog [(cd (Tryz.f155.body.getD .skip) [1, 1, 0, 1, 0, 0, 1, 1, 0, 0, 1, 1, 0, 0, 1, 1, 1])] M2 (fun i => (bif Nat.beq i 2 then (s155_p2_den K M1) else (bif Nat.beq i 1 then (s155_p2_den K M1) else (bif Nat.beq i 0 then (s155_p1_den K) else (fun _ _ => False))))) (s155_R K)
theorem s155_p3_ok (K : Value → World → Prop) (B1 : List Value → World → Prop) (B2 : List Value → World → Prop) (s : Nat → Value) (w : World) (h : s155_p3 K B1 B2 (s 0) (s 1) (s 2) (s 7) (s 9) (s 15) (s 16) (s 17) (s 22) (s 23) (s 24) w) : Tr (s155_p3_den K (fun s w => B1 [s 0, s 1, s 2, s 7, s 15, s 16, s 17] w) (fun s w => B2 [s 0, s 1, s 2, s 7, s 9, s 15, s 16, s 17, s 22, s 23, s 24] w) s w) :=
  tr_simple (P := Tryz.prog) (codes := [(cd (Tryz.f155.body.getD .skip) [1, 1, 0, 1, 0, 0, 1, 1, 0, 0, 1, 1, 0, 0, 1, 1, 1])]) (N := (fun s w => B2 [s 0, s 1, s 2, s 7, s 9, s 15, s 16, s 17, s 22, s 23, s 24] w)) (N' := (fun s w => B2 [s 0, s 1, s 2, s 7, s 9, s 15, s 16, s 17, s 22, s 23, s 24] w)) (X := (fun i => (bif Nat.beq i 2 then (fun s w => s155_p2 K B1 (s 0) (s 1) (s 2) (s 7) (s 15) (s 16) (s 17) w) else (bif Nat.beq i 1 then (fun s w => s155_p2 K B1 (s 0) (s 1) (s 2) (s 7) (s 15) (s 16) (s 17) w) else (bif Nat.beq i 0 then (fun s w => s155_p1 K (s 7) w) else (fun _ _ => False)))))) (X' := (fun i => (bif Nat.beq i 2 then (s155_p2_den K (fun s w => B1 [s 0, s 1, s 2, s 7, s 15, s 16, s 17] w)) else (bif Nat.beq i 1 then (s155_p2_den K (fun s w => B1 [s 0, s 1, s 2, s 7, s 15, s 16, s 17] w)) else (bif Nat.beq i 0 then (s155_p1_den K) else (fun _ _ => False)))))) (R := s155_R K) (s := s) (w := w) (p := s155_p3 K B1 B2 (s 0) (s 1) (s 2) (s 7) (s 9) (s 15) (s 16) (s 17) (s 22) (s 23) (s 24) w) (q := s155_p3_den K (fun s w => B1 [s 0, s 1, s 2, s 7, s 15, s 16, s 17] w) (fun s w => B2 [s 0, s 1, s 2, s 7, s 9, s 15, s 16, s 17, s 22, s 23, s 24] w) s w) tr_id (fun i => (tr_bif (fun s w h => s155_p2_ok K B1 s w @h) (tr_bif (fun s w h => s155_p2_ok K B1 s w @h) (tr_bif (fun s w h => s155_p1_ok K s w @h) tr_id)))) (by kernel_rfl) (by kernel_rfl) @h
def s155_p4 (K : Value → World → Prop) (B1 : List Value → World → Prop) (B2 : List Value → World → Prop) (t0 t1 t2 t7 t9 t15 t16 t17 t22 t23 t24 t58 : Value) (w : World) : Prop :=
  ifb t58
  (fd 3 t9 (fun t60 w =>
  ld1 t60 (fun t61 w =>
  boI .add t7 t61 (fun t62 w =>
  s155_p3 K B1 B2 t0 t1 t2 t62 t9 t15 t16 t17 t22 t23 t24 w) w) w) w)
  (s155_p3 K B1 B2 t0 t1 t2 t7 t9 t15 t16 t17 t22 t23 t24 w)
def s155_p4_den (K : Value → World → Prop) (M1 : (Nat → Value) → World → Prop) (M2 : (Nat → Value) → World → Prop) : (Nat → Value) → World → Prop := denL Tryz.prog [(cd (Tryz.f155.body.getD .skip) [1, 1, 0, 1, 0, 0, 1, 1, 0, 0, 1, 1, 0, 0, 1, 1, 0, 0, 1, 1])] (s155_p3_den K M1 M2) (fun i => (bif Nat.beq i 3 then (s155_p3_den K M1 M2) else (bif Nat.beq i 2 then (s155_p2_den K M1) else (bif Nat.beq i 1 then (s155_p2_den K M1) else (bif Nat.beq i 0 then (s155_p1_den K) else (fun _ _ => False)))))) (s155_R K)
theorem s155_p4_ok (K : Value → World → Prop) (B1 : List Value → World → Prop) (B2 : List Value → World → Prop) (s : Nat → Value) (w : World) (h : s155_p4 K B1 B2 (s 0) (s 1) (s 2) (s 7) (s 9) (s 15) (s 16) (s 17) (s 22) (s 23) (s 24) (s 58) w) : Tr (s155_p4_den K (fun s w => B1 [s 0, s 1, s 2, s 7, s 15, s 16, s 17] w) (fun s w => B2 [s 0, s 1, s 2, s 7, s 9, s 15, s 16, s 17, s 22, s 23, s 24] w) s w) :=
  tr_simple (P := Tryz.prog) (codes := [(cd (Tryz.f155.body.getD .skip) [1, 1, 0, 1, 0, 0, 1, 1, 0, 0, 1, 1, 0, 0, 1, 1, 0, 0, 1, 1])]) (N := (fun s w => s155_p3 K B1 B2 (s 0) (s 1) (s 2) (s 7) (s 9) (s 15) (s 16) (s 17) (s 22) (s 23) (s 24) w)) (N' := (s155_p3_den K (fun s w => B1 [s 0, s 1, s 2, s 7, s 15, s 16, s 17] w) (fun s w => B2 [s 0, s 1, s 2, s 7, s 9, s 15, s 16, s 17, s 22, s 23, s 24] w))) (X := (fun i => (bif Nat.beq i 3 then (fun s w => s155_p3 K B1 B2 (s 0) (s 1) (s 2) (s 7) (s 9) (s 15) (s 16) (s 17) (s 22) (s 23) (s 24) w) else (bif Nat.beq i 2 then (fun s w => s155_p2 K B1 (s 0) (s 1) (s 2) (s 7) (s 15) (s 16) (s 17) w) else (bif Nat.beq i 1 then (fun s w => s155_p2 K B1 (s 0) (s 1) (s 2) (s 7) (s 15) (s 16) (s 17) w) else (bif Nat.beq i 0 then (fun s w => s155_p1 K (s 7) w) else (fun _ _ => False))))))) (X' := (fun i => (bif Nat.beq i 3 then (s155_p3_den K (fun s w => B1 [s 0, s 1, s 2, s 7, s 15, s 16, s 17] w) (fun s w => B2 [s 0, s 1, s 2, s 7, s 9, s 15, s 16, s 17, s 22, s 23, s 24] w)) else (bif Nat.beq i 2 then (s155_p2_den K (fun s w => B1 [s 0, s 1, s 2, s 7, s 15, s 16, s 17] w)) else (bif Nat.beq i 1 then (s155_p2_den K (fun s w => B1 [s 0, s 1, s 2, s 7, s 15, s 16, s 17] w)) else (bif Nat.beq i 0 then (s155_p1_den K) else (fun _ _ => False))))))) (R := s155_R K) (s := s) (w := w) (p := s155_p4 K B1 B2 (s 0) (s 1) (s 2) (s 7) (s 9) (s 15) (s 16) (s 17) (s 22) (s 23) (s 24) (s 58) w) (q := s155_p4_den K (fun s w => B1 [s 0, s 1, s 2, s 7, s 15, s 16, s 17] w) (fun s w => B2 [s 0, s 1, s 2, s 7, s 9, s 15, s 16, s 17, s 22, s 23, s 24] w) s w) (fun s w h => s155_p3_ok K B1 B2 s w @h) (fun i => (tr_bif (fun s w h => s155_p3_ok K B1 B2 s w @h) (tr_bif (fun s w h => s155_p2_ok K B1 s w @h) (tr_bif (fun s w h => s155_p2_ok K B1 s w @h) (tr_bif (fun s w h => s155_p1_ok K s w @h) tr_id))))) (by kernel_rfl) (by kernel_rfl) @h
def s155_p5_d (K : Value → World → Prop) (B1 : List Value → World → Prop) (B2 : List Value → World → Prop) (J : World → Prop) (t0 t1 t2 t7 t9 t11 t15 t16 t17 t22 t23 t24 : Value) (w0 w : World) : Prop :=
  fd 1 t9 (fun t28 _ =>
  Go.Sh.V.qj J (ld1 t28) (fun t29 =>
  Go.Sh.V.qj J (cl Tryz.prog 193 #[t29]) (fun t30 =>
  gd t30 true (fd 0 t11) (fun t32 _ =>
  Go.Sh.V.qj J (gd t30 true (ld1 t32)) (fun t33 =>
  gd t30 true (fun K w => K t1 w) (fun t34 _ =>
  gd t30 true (boI .eql t33 t34) (fun t35 _ =>
  pk t30 t35 (.bool false) (fun t36 _ =>
  gd t36 true (fd 1 t11) (fun t38 _ =>
  Go.Sh.V.qj J (gd t36 true (ld1 t38)) (fun t39 =>
  gd t36 true (fun K w => K t2 w) (fun t40 _ =>
  gd t36 true (boI .leq t39 t40) (fun t41 _ =>
  pk t36 t41 (.bool false) (fun t42 _ =>
  gd t42 true (fun K w => K t2 w) (fun t44 _ =>
  gd t42 true (fd 1 t11) (fun t45 _ =>
  Go.Sh.V.qj J (gd t42 true (ld1 t45)) (fun t46 =>
  gd t42 true (fun K w => K t0 w) (fun t47 _ =>
  gd t42 true (nck t47) (fun t48 _ =>
  gd t42 true (fd 0 t48) (fun t49 _ =>
  gd t42 true (fd 0 t49) (fun t50 _ =>
  Go.Sh.V.qj J (gd t42 true (ld1 t50)) (fun t51 =>
  gd t42 true (fun K w => K t1 w) (fun t52 _ =>
  gd t42 true (ixs 5 t51 t52) (fun t53 _ =>
  gd t42 true (fd 1 t53) (fun t54 _ =>
  Go.Sh.V.qj J (gd t42 true (ld1 t54)) (fun t55 =>
  gd t42 true (boI .add t46 t55) (fun t56 _ =>
  gd t42 true (boI .lss t44 t56) (fun t57 _ =>
  pk t42 t57 (.bool false) (fun t58 _ =>
  ∀ w, J w →
  s155_p4 K B1 B2 t0 t1 t2 t7 t9 t15 t16 t17 t22 t23 t24 t58 w) w0) w0) w0)) w0) w0) w0)) w0) w0) w0) w0)) w0) w0) w0) w0) w0)) w0) w0) w0) w0)) w0))) w0
def s155_p5 (K : Value → World → Prop) (B1 : List Value → World → Prop) (B2 : List Value → World → Prop) (t0 t1 t2 t7 t9 t11 t15 t16 t17 t22 t23 t24 : Value) (w : World) : Prop := ∃ J : World → Prop, J (drw w) ∧ s155_p5_d K B1 B2 J t0 t1 t2 t7 t9 t11 t15 t16 t17 t22 t23 t24 (drw w) (drw w)
def s155_p5_den (K : Value → World → Prop) (M1 : (Nat → Value) → World → Prop) (M2 : (Nat → Value) → World → Prop) : (Nat → Value) → World → Prop := denL Tryz.prog [(cd (Tryz.f155.body.getD .skip) [1, 1, 0, 1, 0, 0, 1, 1, 0, 0, 1, 1, 0, 0, 1, 1, 0, 0, 1, 0])] (s155_p4_den K M1 M2) (fun i => (bif Nat.beq i 3 then (s155_p3_den K M1 M2) else (bif Nat.beq i 2 then (s155_p2_den K M1) else (bif Nat.beq i 1 then (s155_p2_den K M1) else (bif Nat.beq i 0 then (s155_p1_den K) else (fun _ _ => False)))))) (s155_R K)
theorem s155_p5_ok (K : Value → World → Prop) (B1 : List Value → World → Prop) (B2 : List Value → World → Prop) (s : Nat → Value) (w : World) (h : s155_p5 K B1 B2 (s 0) (s 1) (s 2) (s 7) (s 9) (s 11) (s 15) (s 16) (s 17) (s 22) (s 23) (s 24) w) : Tr (s155_p5_den K (fun s w => B1 [s 0, s 1, s 2, s 7, s 15, s 16, s 17] w) (fun s w => B2 [s 0, s 1, s 2, s 7, s 9, s 15, s 16, s 17, s 22, s 23, s 24] w) s w) :=
  Go.Sh.V.tr_drawV (P := Tryz.prog) (ops := (ro (cd (Tryz.f155.body.getD .skip) [1, 1, 0, 1, 0, 0, 1, 1, 0, 0, 1, 1, 0, 0, 1, 1, 0, 0, 1, 0]))) (cs := [0, 1, 2, 3, 4, 5, 6, 7, 8, 9, 10, 11, 12, 13, 14, 15, 16, 17, 18, 19, 20, 21, 22, 23, 24, 25, 26, 27, 28, 29, 30]) (N := (fun s w => s155_p4 K B1 B2 (s 0) (s 1) (s 2) (s 7) (s 9) (s 15) (s 16) (s 17) (s 22) (s 23) (s 24) (s 58) w)) (N' := (s155_p4_den K (fun s w => B1 [s 0, s 1, s 2, s 7, s 15, s 16, s 17] w) (fun s w => B2 [s 0, s 1, s 2, s 7, s 9, s 15, s 16, s 17, s 22, s 23, s 24] w))) (s := s) (w := w) (p := fun J => s155_p5_d K B1 B2 J (s 0) (s 1) (s 2) (s 7) (s 9) (s 11) (s 15) (s 16) (s 17) (s 22) (s 23) (s 24) (drw w) (drw w)) (q := s155_p5_den K (fun s w => B1 [s 0, s 1, s 2, s 7, s 15, s 16, s 17] w) (fun s w => B2 [s 0, s 1, s 2, s 7, s 9, s 15, s 16, s 17, s 22, s 23, s 24] w) s w) (by kernel_rfl) (by kernel_rfl) (fun s w h => s155_p4_ok K B1 B2 s w @h) (by kernel_rfl) (by kernel_rfl) @h
def s155_p6 (K : Value → World → Prop) (B1 : List Value → World → Prop) (B2 : List Value → World → Prop) (t0 t1 t2 t7 t9 t15 t16 t17 t22 t23 t24 : Value) (w : World) : Prop :=
  ixs 2 t22 t24 (fun t26 w =>
  ldn 2 t26 (fun t27 w =>
  nw 88 #[(.int .i64 0), (.int .i64 0)] (fun t11 w =>
  stn 2 t11 t27 (fun w =>
  s155_p5 K B1 B2 t0 t1 t2 t7 t9 t11 t15 t16 t17 t22 t23 t24 w) w) w) w) w
def s155_p6_den (K : Value → World → Prop) (M1 : (Nat → Value) → World → Prop) (M2 : (Nat → Value) → World → Prop) : (Nat → Value) → World → Prop := denL Tryz.prog [(cd (Tryz.f155.body.getD .skip) [1, 1, 0, 1, 0, 0, 1, 1, 0, 0, 1, 1, 0, 0, 1, 1, 0, 0, 0])] (s155_p5_den K M1 M2) (fun i => (bif Nat.beq i 3 then (s155_p3_den K M1 M2) else (bif Nat.beq i 2 then (s155_p2_den K M1) else (bif Nat.beq i 1 then (s155_p2_den K M1) else (bif Nat.beq i 0 then (s155_p1_den K) else (fun _ _ => False)))))) (s155_R K)
theorem s155_p6_ok (K : Value → World → Prop) (B1 : List Value → World → Prop) (B2 : List Value → World → Prop) (s : Nat → Value) (w : World) (h : s155_p6 K B1 B2 (s 0) (s 1) (s 2) (s 7) (s 9) (s 15) (s 16) (s 17) (s 22) (s 23) (s 24) w) : Tr (s155_p6_den K (fun s w => B1 [s 0, s 1, s 2, s 7, s 15, s 16, s 17] w) (fun s w => B2 [s 0, s 1, s 2, s 7, s 9, s 15, s 16, s 17, s 22, s 23, s 24] w) s w) :=
  tr_simple (P := Tryz.prog) (codes := [(cd (Tryz.f155.body.getD .skip) [1, 1, 0, 1, 0, 0, 1, 1, 0, 0, 1, 1, 0, 0, 1, 1, 0, 0, 0])]) (N := (fun s w => s155_p5 K B1 B2 (s 0) (s 1) (s 2) (s 7) (s 9) (s 11) (s 15) (s 16) (s 17) (s 22) (s 23) (s 24) w)) (N' := (s155_p5_den K (fun s w => B1 [s 0, s 1, s 2, s 7, s 15, s 16, s 17] w) (fun s w => B2 [s 0, s 1, s 2, s 7, s 9, s 15, s 16, s 17, s 22, s 23, s 24] w))) (X := (fun i => (bif Nat.beq i 3 then (fun s w => s155_p3 K B1 B2 (s 0) (s 1) (s 2) (s 7) (s 9) (s 15) (s 16) (s 17) (s 22) (s 23) (s 24) w) else (bif Nat.beq i 2 then (fun s w => s155_p2 K B1 (s 0) (s 1) (s 2) (s 7) (s 15) (s 16) (s 17) w) else (bif Nat.beq i 1 then (fun s w => s155_p2 K B1 (s 0) (s 1) (s 2) (s 7) (s 15) (s 16) (s 17) w) else (bif Nat.beq i 0 then (fun s w => s155_p1 K (s 7) w) else (fun _ _ => False))))))) (X' := (fun i => (bif Nat.beq i 3 then (s155_p3_den K (fun s w => B1 [s 0, s 1, s 2, s 7, s 15, s 16, s 17] w) (fun s w => B2 [s 0, s 1, s 2, s 7, s 9, s 15, s 16, s 17, s 22, s 23, s 24] w)) else (bif Nat.beq i 2 then (s155_p2_den K (fun s w => B1 [s 0, s 1, s 2, s 7, s 15, s 16, s 17] w)) else (bif Nat.beq i 1 then (s155_p2_den K (fun s w => B1 [s 0, s 1, s 2, s 7, s 15, s 16, s 17] w)) else (bif Nat.beq i 0 then (s155_p1_den K) else (fun _ _ => False))))))) (R := s155_R K) (s := s) (w := w) (p := s155_p6 K B1 B2 (s 0) (s 1) (s 2) (s 7) (s 9) (s 15) (s 16) (s 17) (s 22) (s 23) (s 24) w) (q := s155_p6_den K (fun s w => B1 [s 0, s 1, s 2, s 7, s 15, s 16, s 17] w) (fun s w => B2 [s 0, s 1, s 2, s 7, s 9, s 15, s 16, s 17, s 22, s 23, s 24] w) s w) (fun s w h => s155_p5_ok K B1 B2 s w @h) (fun i => (tr_bif (fun s w h => s155_p3_ok K B1 B2 s w @h) (tr_bif (fun s w h => s155_p2_ok K B1 s w @h) (tr_bif (fun s w h => s155_p2_ok K B1 s w @h) (tr_bif (fun s w h => s155_p1_ok K s w @h) tr_id))))) (by kernel_rfl) (by kernel_rfl) @h
def s155_p7 (K : Value → World → Prop) (B1 : List Value → World → Prop) (B2 : List Value → World → Prop) (t0 t1 t2 t7 t9 t15 t16 t17 t22 t23 t24 : Value) (w : World) : Prop :=
  boI .lss t24 t23 (fun t25 w =>
  ifb t25
  (s155_p6 K B1 B2 t0 t1 t2 t7 t9 t15 t16 t17 t22 t23 t24 w)
  (s155_p2 K B1 t0 t1 t2 t7 t15 t16 t17 w)) w
def s155_p7_den (K : Value → World → Prop) (M1 : (Nat → Value) → World → Prop) (M2 : (Nat → Value) → World → Prop) : (Nat → Value) → World → Prop := denL Tryz.prog [(cd (Tryz.f155.body.getD .skip) [1, 1, 0, 1, 0, 0, 1, 1, 0, 0, 1, 1, 0, 0, 0]), (cd (Tryz.f155.body.getD .skip) [1, 1, 0, 1, 0, 0, 1, 1, 0, 0, 1, 1, 0, 0, 1, 0])] (s155_p6_den K M1 M2) (fun i => (bif Nat.beq i 2 then (s155_p2_den K M1) else (bif Nat.beq i 1 then (s155_p2_den K M1) else (bif Nat.beq i 0 then (s155_p1_den K) else (fun _ _ => False))))) (s155_R K)
theorem s155_p7_ok (K : Value → World → Prop) (B1 : List Value → World → Prop) (B2 : List Value → World → Prop) (s : Nat → Value) (w : World) (h : s155_p7 K B1 B2 (s 0) (s 1) (s 2) (s 7) (s 9) (s 15) (s 16) (s 17) (s 22) (s 23) (s 24) w) : Tr (s155_p7_den K (fun s w => B1 [s 0, s 1, s 2, s 7, s 15, s 16, s 17] w) (fun s w => B2 [s 0, s 1, s 2, s 7, s 9, s 15, s 16, s 17, s 22, s 23, s 24] w) s w) :=
  tr_simple (P := Tryz.prog) (codes := [(cd (Tryz.f155.body.getD .skip) [1, 1, 0, 1, 0, 0, 1, 1, 0, 0, 1, 1, 0, 0, 0]), (cd (Tryz.f155.body.getD .skip) [1, 1, 0, 1, 0, 0, 1, 1, 0, 0, 1, 1, 0, 0, 1, 0])]) (N := (fun s w => s155_p6 K B1 B2 (s 0) (s 1) (s 2) (s 7) (s 9) (s 15) (s 16) (s 17) (s 22) (s 23) (s 24) w)) (N' := (s155_p6_den K (fun s w => B1 [s 0, s 1, s 2, s 7, s 15, s 16, s 17] w) (fun s w => B2 [s 0, s 1, s 2, s 7, s 9, s 15, s 16, s 17, s 22, s 23, s 24] w))) (X := (fun i => (bif Nat.beq i 2 then (fun s w => s155_p2 K B1 (s 0) (s 1) (s 2) (s 7) (s 15) (s 16) (s 17) w) else (bif Nat.beq i 1 then (fun s w => s155_p2 K B1 (s 0) (s 1) (s 2) (s 7) (s 15) (s 16) (s 17) w) else (bif Nat.beq i 0 then (fun s w => s155_p1 K (s 7) w) else (fun _ _ => False)))))) (X' := (fun i => (bif Nat.beq i 2 then (s155_p2_den K (fun s w => B1 [s 0, s 1, s 2, s 7, s 15, s 16, s 17] w)) else (bif Nat.beq i 1 then (s155_p2_den K (fun s w => B1 [s 0, s 1, s 2, s 7, s 15, s 16, s 17] w)) else (bif Nat.beq i 0 then (s155_p1_den K) else (fun _ _ => False)))))) (R := s155_R K) (s := s) (w := w) (p := s155_p7 K B1 B2 (s 0) (s 1) (s 2) (s 7) (s 9) (s 15) (s 16) (s 17) (s 22) (s 23) (s 24) w) (q := s155_p7_den K (fun s w => B1 [s 0, s 1, s 2, s 7, s 15, s 16, s 17] w) (fun s w => B2 [s 0, s 1, s 2, s 7, s 9, s 15, s 16, s 17, s 22, s 23, s 24] w) s w) (fun s w h => s155_p6_ok K B1 B2 s w @h) (fun i => (tr_bif (fun s w h => s155_p2_ok K B1 s w @h) (tr_bif (fun s w h => s155_p2_ok K B1 s w @h) (tr_bif (fun s w h => s155_p1_ok K s w @h) tr_id)))) (by kernel_rfl) (by kernel_rfl) @h
def s155_p8_F (K : Value → World → Prop) (B1 : List Value → World → Prop) (B2 : List Value → World → Prop) (l : List Value) (w : World) : Prop :=
  match l with
  | [t0, t1, t2, t7, t9, t15, t16, t17, t22, t23, t24] => s155_p7 K B1 B2 t0 t1 t2 t7 t9 t15 t16 t17 t22 t23 t24 w
  | _ => False
theorem s155_p8_Fe {K : Value → World → Prop} {B1 : List Value → World → Prop} {B2 : List Value → World → Prop} {t0 t1 t2 t7 t9 t15 t16 t17 t22 t23 t24 : Value} {w : World} : s155_p8_F K B1 B2 [t0, t1, t2, t7, t9, t15, t16, t17, t22, t23, t24] w = s155_p7 K B1 B2 t0 t1 t2 t7 t9 t15 t16 t17 t22 t23 t24 w := by kernel_rfl
def s155_p8 (K : Value → World → Prop) (B1 : List Value → World → Prop) (t0 t1 t2 t7 t9 t15 t16 t17 t22 t23 t24 : Value) (w : World) : Prop :=
  LoopL (s155_p8_F K B1) [t0, t1, t2, t7, t9, t15, t16, t17, t22, t23, t24] w
def s155_p8_den (K : Value → World → Prop) (M1 : (Nat → Value) → World → Prop) : (Nat → Value) → World → Prop := fun s w => LoopP (fun M2 s w => s155_p7_den K M1 M2 s w) s w
theorem s155_p8_ok (K : Value → World → Prop) (B1 : List Value → World → Prop) (s : Nat → Value) (w : World) (h : s155_p8 K B1 (s 0) (s 1) (s 2) (s 7) (s 9) (s 15) (s 16) (s 17) (s 22) (s 23) (s 24) w) : Tr (s155_p8_den K (fun s w => B1 [s 0, s 1, s 2, s 7, s 15, s 16, s 17] w) s w) :=
  tr_loop (G := fun N' s w => s155_p7_den K (fun s w => B1 [s 0, s 1, s 2, s 7, s 15, s 16, s 17] w) N' s w) (F := s155_p8_F K B1) (sel := fun s => [s 0, s 1, s 2, s 7, s 9, s 15, s 16, s 17, s 22, s 23, s 24]) (s := s) (w := w) (p := s155_p8 K B1 (s 0) (s 1) (s 2) (s 7) (s 9) (s 15) (s 16) (s 17) (s 22) (s 23) (s 24) w) (q := s155_p8_den K (fun s w => B1 [s 0, s 1, s 2, s 7, s 15, s 16, s 17] w) s w) (fun B s w h => s155_p7_ok K B1 B s w @h) (by kernel_rfl) (by kernel_rfl) @h
def s155_p9 (K : Value → World → Prop) (B1 : List Value → World → Prop) (t0 t1 t2 t7 t15 t16 t17 : Value) (w : World) : Prop :=
  ixs 7 t15 t17 (fun t19 w =>
  ldn 7 t19 (fun t20 w =>
  nw 85 #[(.int .i64 0), (.int .i64 0), (.int .i64 0), (.int .i64 0), (.int .i64 0), (.int .i64 0), (.slice none 0 0)] (fun t9 w =>
  stn 7 t9 t20 (fun w =>
  fd 6 t9 (fun t21 w =>
  ld1 t21 (fun t22 w =>
  lnS t22 (fun t23 w =>
  s155_p8 K B1 t0 t1 t2 t7 t9 t15 t16 t17 t22 t23 (.int .i64 0) w) w) w) w) w) w) w) w
def s155_p9_den (K : Value → World → Prop) (M1 : (Nat → Value) → World → Prop) : (Nat → Value) → World → Prop := denL Tryz.prog [(cd (Tryz.f155.body.getD .skip) [1, 1, 0, 1, 0, 0, 1, 1, 0, 0, 0]), (cd (Tryz.f155.body.getD .skip) [1, 1, 0, 1, 0, 0, 1, 1, 0, 0, 1, 0])] (s155_p8_den K M1) (fun i => (bif Nat.beq i 1 then (s155_p2_den K M1) else (bif Nat.beq i 0 then (s155_p1_den K) else (fun _ _ => False)))) (s155_R K)
theorem s155_p9_ok (K : Value → World → Prop) (B1 : List Value → World → Prop) (s : Nat → Value) (w : World) (h : s155_p9 K B1 (s 0) (s 1) (s 2) (s 7) (s 15) (s 16) (s 17) w) : Tr (s155_p9_den K (fun s w => B1 [s 0, s 1, s 2, s 7, s 15, s 16, s 17] w) s w) :=
  tr_simple (P := Tryz.prog) (codes := [(cd (Tryz.f155.body.getD .skip) [1, 1, 0, 1, 0, 0, 1, 1, 0, 0, 0]), (cd (Tryz.f155.body.getD .skip) [1, 1, 0, 1, 0, 0, 1, 1, 0, 0, 1, 0])]) (N := (fun s w => s155_p8 K B1 (s 0) (s 1) (s 2) (s 7) (s 9) (s 15) (s 16) (s 17) (s 22) (s 23) (s 24) w)) (N' := (s155_p8_den K (fun s w => B1 [s 0, s 1, s 2, s 7, s 15, s 16, s 17] w))) (X := (fun i => (bif Nat.beq i 1 then (fun s w => s155_p2 K B1 (s 0) (s 1) (s 2) (s 7) (s 15) (s 16) (s 17) w) else (bif Nat.beq i 0 then (fun s w => s155_p1 K (s 7) w) else (fun _ _ => False))))) (X' := (fun i => (bif Nat.beq i 1 then (s155_p2_den K (fun s w => B1 [s 0, s 1, s 2, s 7, s 15, s 16, s 17] w)) else (bif Nat.beq i 0 then (s155_p1_den K) else (fun _ _ => False))))) (R := s155_R K) (s := s) (w := w) (p := s155_p9 K B1 (s 0) (s 1) (s 2) (s 7) (s 15) (s 16) (s 17) w) (q := s155_p9_den K (fun s w => B1 [s 0, s 1, s 2, s 7, s 15, s 16, s 17] w) s w) (fun s w h => s155_p8_ok K B1 s w @h) (fun i => (tr_bif (fun s w h => s155_p2_ok K B1 s w @h) (tr_bif (fun s w h => s155_p1_ok K s w @h) tr_id))) (by kernel_rfl) (by kernel_rfl) @h
def s155_p10 (K : Value → World → Prop) (B1 : List Value → World → Prop) (t0 t1 t2 t7 t15 t16 t17 : Value) (w : World) : Prop :=
  boI .lss t17 t16 (fun t18 w =>
  ifb t18
  (s155_p9 K B1 t0 t1 t2 t7 t15 t16 t17 w)
  (s155_p1 K t7 w)) w
def s155_p10_den (K : Value → World → Prop) (M1 : (Nat → Value) → World → Prop) : (Nat → Value) → World → Prop := denL Tryz.prog [(cd (Tryz.f155.body.getD .skip) [1, 1, 0, 1, 0, 0, 0]), (cd (Tryz.f155.body.getD .skip) [1, 1, 0, 1, 0, 0, 1, 0])] (s155_p9_den K M1) (fun i => (bif Nat.beq i 0 then (s155_p1_den K) else (fun _ _ => False))) (s155_R K)
theorem s155_p10_ok (K : Value → World → Prop) (B1 : List Value → World → Prop) (s : Nat → Value) (w : World) (h : s155_p10 K B1 (s 0) (s 1) (s 2) (s 7) (s 15) (s 16) (s 17) w) : Tr (s155_p10_den K (fun s w => B1 [s 0, s 1, s 2, s 7, s 15, s 16, s 17] w) s w) :=
  tr_simple (P := Tryz.prog) (codes := [(cd (Tryz.f155.body.getD .skip) [1, 1, 0, 1, 0, 0, 0]), (cd (Tryz.f155.body.getD .skip) [1, 1, 0, 1, 0, 0, 1, 0])]) (N := (fun s w => s155_p9 K B1 (s 0) (s 1) (s 2) (s 7) (s 15) (s 16) (s 17) w)) (N' := (s155_p9_den K (fun s w => B1 [s 0, s 1, s 2, s 7, s 15, s 16, s 17] w))) (X := (fun i => (bif Nat.beq i 0 then (fun s w => s155_p1 K (s 7) w) else (fun _ _ => False)))) (X' := (fun i => (bif Nat.beq i 0 then (s155_p1_den K) else (fun _ _ => False)))) (R := s155_R K) (s := s) (w := w) (p := s155_p10 K B1 (s 0) (s 1) (s 2) (s 7) (s 15) (s 16) (s 17) w) (q := s155_p10_den K (fun s w => B1 [s 0, s 1, s 2, s 7, s 15, s 16, s 17] w) s w) (fun s w h => s155_p9_ok K B1 s w @h) (fun i => (tr_bif (fun s w h => s155_p1_ok K s w @h) tr_id)) (by kernel_rfl) (by kernel_rfl) @h
def s155_p11_F (K : Value → World → Prop) (B1 : List Value → World → Prop) (l : List Value) (w : World) : Prop :=
  match l with
  | [t0, t1, t2, t7, t15, t16, t17] => s155_p10 K B1 t0 t1 t2 t7 t15 t16 t17 w
  | _ => False
theorem s155_p11_Fe {K : Value → World → Prop} {B1 : List Value → World → Prop} {t0 t1 t2 t7 t15 t16 t17 : Value} {w : World} : s155_p11_F K B1 [t0, t1, t2, t7, t15, t16, t17] w = s155_p10 K B1 t0 t1 t2 t7 t15 t16 t17 w := by kernel_rfl
def s155_p11 (K : Value → World → Prop) (t0 t1 t2 t7 t15 t16 t17 : Value) (w : World) : Prop :=
  LoopL (s155_p11_F K) [t0, t1, t2, t7, t15, t16, t17] w
def s155_p11_den (K : Value → World → Prop) : (Nat → Value) → World → Prop := fun s w => LoopP (fun M1 s w => s155_p10_den K M1 s w) s w
theorem s155_p11_ok (K : Value → World → Prop) (s : Nat → Value) (w : World) (h : s155_p11 K (s 0) (s 1) (s 2) (s 7) (s 15) (s 16) (s 17) w) : Tr (s155_p11_den K s w) :=
  tr_loop (G := fun N' s w => s155_p10_den K N' s w) (F := s155_p11_F K) (sel := fun s => [s 0, s 1, s 2, s 7, s 15, s 16, s 17]) (s := s) (w := w) (p := s155_p11 K (s 0) (s 1) (s 2) (s 7) (s 15) (s 16) (s 17) w) (q := s155_p11_den K s w) (fun B s w h => s155_p10_ok K B s w @h) (by kernel_rfl) (by kernel_rfl) @h
def s155_p12 (K : Value → World → Prop) (t0 t1 t2 : Value) (w : World) : Prop :=
  nck t0 (fun t13 w =>
  fd 15 t13 (fun t14 w =>
  ld1 t14 (fun t15 w =>
  lnS t15 (fun t16 w =>
  s155_p11 K t0 t1 t2 (.int .i64 0) t15 t16 (.int .i64 0) w) w) w) w) w
def s155_p12_den (K : Value → World → Prop) : (Nat → Value) → World → Prop := denL Tryz.prog [(cd (Tryz.f155.body.getD .skip) [0]), (cd (Tryz.f155.body.getD .skip) [1, 0]), (cd (Tryz.f155.body.getD .skip) [1, 1, 0, 0])] (s155_p11_den K) (fun i => (fun _ _ => False)) (s155_R K)
theorem s155_p12_ok (K : Value → World → Prop) (s : Nat → Value) (w : World) (h : s155_p12 K (s 0) (s 1) (s 2) w) : Tr (s155_p12_den K s w) :=
  tr_simple (P := Tryz.prog) (codes := [(cd (Tryz.f155.body.getD .skip) [0]), (cd (Tryz.f155.body.getD .skip) [1, 0]), (cd (Tryz.f155.body.getD .skip) [1, 1, 0, 0])]) (N := (fun s w => s155_p11 K (s 0) (s 1) (s 2) (s 7) (s 15) (s 16) (s 17) w)) (N' := (s155_p11_den K)) (X := (fun i => (fun _ _ => False))) (X' := (fun i => (fun _ _ => False))) (R := s155_R K) (s := s) (w := w) (p := s155_p12 K (s 0) (s 1) (s 2) w) (q := s155_p12_den K s w) (fun s w h => s155_p11_ok K s w @h) (fun i => tr_id) (by kernel_rfl) (by kernel_rfl) @h
/-- the call, from the text -/
theorem c155 (t0 t1 t2 : Value) {K : Value → World → Prop} {w : World} (h : s155_p12 K t0 t1 t2 w) : cl Tryz.prog 155 #[t0, t1, t2] K w :=
  calls_of_tr (c := (Tryz.f155.body.getD .skip)) (fn := Tryz.f155) (q := s155_p12_den K (st0 #[t0, t1, t2]) w) Tryz.func155 (by kernel_rfl) (by kernel_rfl) (Nat.le_of_ble_eq_true (by kernel_rfl)) (by kernel_rfl) (by kernel_rfl) (s155_p12_ok K (st0 #[t0, t1, t2]) w @h)

/-! ### function 156 : (*e2e.enginem.State).Entered -/
def s156_R (K : Value → World → Prop) (s : Nat → Value) (w : World) : Prop := retv Tryz.prog s Tryz.f156.results.toList (fun vs => K (pack vs) w) w
def s156_p1 (K : Value → World → Prop) (t9 : Value) (w : World) : Prop :=
  K t9 w
def s156_p1_den (K : Value → World → Prop) : (Nat → Value) → World → Prop := denL Tryz.prog [(cd (Tryz.f156.body.getD .skip) [1, 1, 1, 0]), (cd (Tryz.f156.body.getD .skip) [1, 1, 1, 1])] (fun _ _ => False) (fun i => (fun _ _ => False)) (s156_R K)
theorem s156_p1_ok (K : Value → World → Prop) (s : Nat → Value) (w : World) (h : s156_p1 K (s 9) w) : Tr (s156_p1_den K s w) :=
  tr_simple (P := Tryz.prog) (codes := [(cd (Tryz.f156.body.getD .skip) [1, 1, 1, 0]), (cd (Tryz.f156.body.getD .skip) [1, 1, 1, 1])]) (N := (fun _ _ => False)) (N' := (fun _ _ => False)) (X := (fun i => (fun _ _ => False))) (X' := (fun i => (fun _ _ => False))) (R := s156_R K) (s := s) (w := w) (p := s156_p1 K (s 9) w) (q := s156_p1_den K s w) tr_id (fun i => tr_id) (by kernel_rfl) (by kernel_rfl) @h
def s156_p2 (K : Value → World → Prop) (B1 : List Value → World → Prop) (t1 t2 t3 t9 t17 t18 t19 : Value) (w : World) : Prop :=
  boI .add t19 (.int .i64 1) (fun t56 w =>
  B1 [t1, t2, t3, t9, t17, t18, t56] w) w
def s156_p2_den (K : Value → World → Prop) (M1 : (Nat → Value) → World → Prop) : (Nat → Value) → World → Prop := denL Tryz.prog [(cd (Tryz.f156.body.getD .skip) [1, 1, 0, 1, 0, 0, 1, 1, 1])] M1 (fun i => (bif Nat.beq i 0 then (s156_p1_den K) else (fun _ _ => False))) (s156_R K)
theorem s156_p2_ok (K : Value → World → Prop) (B1 : List Value → World → Prop) (s : Nat → Value) (w : World) (h : s156_p2 K B1 (s 1) (s 2) (s 3) (s 9) (s 17) (s 18) (s 19) w) : Tr (s156_p2_den K (fun s w => B1 [s 1, s 2, s 3, s 9, s 17, s 18, s 19] w) s w) :=
  tr_simple (P := Tryz.prog) (codes := [(cd (Tryz.f156.body.getD .skip) [1, 1, 0, 1, 0, 0, 1, 1, 1])]) (N := (fun s w => B1 [s 1, s 2, s 3, s 9, s 17, s 18, s 19] w)) (N' := (fun s w => B1 [s 1, s 2, s 3, s 9, s 17, s 18, s 19] w)) (X := (fun i => (bif Nat.beq i 0 then (fun s w => s156_p1 K (s 9) w) else (fun _ _ => False)))) (X' := (fun i => (bif Nat.beq i 0 then (s156_p1_den K) else (fun _ _ => False)))) (R := s156_R K) (s := s) (w := w) (p := s156_p2 K B1 (s 1) (s 2) (s 3) (s 9) (s 17) (s 18) (s 19) w) (q := s156_p2_den K (fun s w => B1 [s 1, s 2, s 3, s 9, s 17, s 18, s 19] w) s w) tr_id (fun i => (tr_bif (fun s w h => s156_p1_ok K s w @h) tr_id)) (by kernel_rfl) (by kernel_rfl) @h
def s156_p3 (K : Value → World → Prop) (B1 : List Value → World → Prop) (B2 : List Value → World → Prop) (t1 t2 t3 t9 t11 t17 t18 t19 t24 t25 t26 : Value) (w : World) : Prop :=
  boI .add t26 (.int .i64 1) (fun t55 w =>
  B2 [t1, t2, t3, t9, t11, t17, t18, t19, t24, t25, t55] w) w
def s156_p3_den (K : Value → World → Prop) (M1 : (Nat → Value) → World → Prop) (M2 : (Nat → Value) → World → Prop) : (Nat → Value) → World → Prop := denL Tryz.prog [(cd (Tryz.f156.body.getD .skip) [1, 1, 0, 1, 0, 0, 1, 1, 0, 0, 1, 1, 0, 0, 1, 1, 1])] M2 (fun i => (bif Nat.beq i 2 then (s156_p2_den K M1) else (bif Nat.beq i 1 then (s156_p2_den K M1) else (bif Nat.beq i 0 then (s156_p1_den K) else (fun _ _ => False))))) (s156_R K)
theorem s156_p3_ok (K : Value → World → Prop) (B1 : List Value → World → Prop) (B2 : List Value → World → Prop) (s : Nat → Value) (w : World) (h : s156_p3 K B1 B2 (s 1) (s 2) (s 3) (s 9) (s 11) (s 17) (s 18) (s 19) (s 24) (s 25) (s 26) w) : Tr (s156_p3_den K (fun s w => B1 [s 1, s 2, s 3, s 9, s 17, s 18, s 19] w) (fun s w => B2 [s 1, s 2, s 3, s 9, s 11, s 17, s 18, s 19, s 24, s 25, s 26] w) s w) :=
  tr_simple (P := Tryz.prog) (codes := [(cd (Tryz.f156.body.getD .skip) [1, 1, 0, 1, 0, 0, 1, 1, 0, 0, 1, 1, 0, 0, 1, 1, 1])]) (N := (fun s w => B2 [s 1, s 2, s 3, s 9, s 11, s 17, s 18, s 19, s 24, s 25, s 26] w)) (N' := (fun s w => B2 [s 1, s 2, s 3, s 9, s 11, s 17, s 18, s 19, s 24, s 25, s 26] w)) (X := (fun i => (bif Nat.beq i 2 then (fun s w => s156_p2 K B1 (s 1) (s 2) (s 3) (s 9) (s 17) (s 18) (s 19) w) else (bif Nat.beq i 1 then (fun s w => s156_p2 K B1 (s 1) (s 2) (s 3) (s 9) (s 17) (s 18) (s 19) w) else (bif Nat.beq i 0 then (fun s w => s156_p1 K (s 9) w) else (fun _ _ => False)))))) (X' := (fun i => (bif Nat.beq i 2 then (s156_p2_den K (fun s w => B1 [s 1, s 2, s 3, s 9, s 17, s 18, s 19] w)) else (bif Nat.beq i 1 then (s156_p2_den K (fun s w => B1 [s 1, s 2, s 3, s 9, s 17, s 18, s 19] w)) else (bif Nat.beq i 0 then (s156_p1_den K) else (fun _ _ => False)))))) (R := s156_R K) (s := s) (w := w) (p := s156_p3 K B1 B2 (s 1) (s 2) (s 3) (s 9) (s 11) (s 17) (s 18) (s 19) (s 24) (s 25) (s 26) w) (q := s156_p3_den K (fun s w => B1 [s 1, s 2, s 3, s 9, s 17, s 18, s 19] w) (fun s w => B2 [s 1, s 2, s 3, s 9, s 11, s 17, s 18, s 19, s 24, s 25, s 26] w) s w) tr_id (fun i => (tr_bif (fun s w h => s156_p2_ok K B1 s w @h) (tr_bif (fun s w h => s156_p2_ok K B1 s w @h) (tr_bif (fun s w h => s156_p1_ok K s w @h) tr_id)))) (by kernel_rfl) (by kernel_rfl) @h
def s156_p4 (K : Value → World → Prop) (B1 : List Value → World → Prop) (B2 : List Value → World → Prop) (t1 t2 t3 t9 t11 t17 t18 t19 t24 t25 t26 : Value) (w : World) : Prop :=
  boI .lss t26 t25 (fun t27 w =>
  ifb t27
  (ixs 2 t24 t26 (fun t28 w =>
  ldn 2 t28 (fun t29 w =>
  nw 88 #[(.int .i64 0), (.int .i64 0)] (fun t13 w =>
  stn 2 t13 t29 (fun w =>
  fd 1 t11 (fun t30 w =>
  ld1 t30 (fun t31 w =>
  cl Tryz.prog 193 #[t31] (fun t32 w =>
  gd t32 true (fd 2 t11) (fun t34 w =>
  gd t32 true (ld1 t34) (fun t35 w =>
  gd t32 true (fun K w => K t3 w) (fun t36 w =>
  gd t32 true (boI .eql t35 t36) (fun t37 w =>
  pk t32 t37 (.bool false) (fun t38 w =>
  gd t38 true (fd 0 t13) (fun t40 w =>
  gd t38 true (ld1 t40) (fun t41 w =>
  gd t38 true (fun K w => K t1 w) (fun t42 w =>
  gd t38 true (boI .eql t41 t42) (fun t43 w =>
  pk t38 t43 (.bool false) (fun t44 w =>
  gd t44 true (fd 1 t13) (fun t46 w =>
  gd t44 true (ld1 t46) (fun t47 w =>
  gd t44 true (fun K w => K t2 w) (fun t48 w =>
  gd t44 true (boI .eql t47 t48) (fun t49 w =>
  pk t44 t49 (.bool false) (fun t50 w =>
  ifb t50
  (fd 3 t11 (fun t52 w =>
  ld1 t52 (fun t53 w =>
  boI .add t9 t53 (fun t54 w =>
  s156_p3 K B1 B2 t1 t2 t3 t54 t11 t17 t18 t19 t24 t25 t26 w) w) w) w)
  (s156_p3 K B1 B2 t1 t2 t3 t9 t11 t17 t18 t19 t24 t25 t26 w)) w) w) w) w) w) w) w) w) w) w) w) w) w) w) w) w) w) w) w) w) w) w)
  (s156_p2 K B1 t1 t2 t3 t9 t17 t18 t19 w)) w
def s156_p4_den (K : Value → World → Prop) (M1 : (Nat → Value) → World → Prop) (M2 : (Nat → Value) → World → Prop) : (Nat → Value) → World → Prop := denL Tryz.prog [(cd (Tryz.f156.body.getD .skip) [1, 1, 0, 1, 0, 0, 1, 1, 0, 0, 1, 1, 0, 0, 0]), (cd (Tryz.f156.body.getD .skip) [1, 1, 0, 1, 0, 0, 1, 1, 0, 0, 1, 1, 0, 0, 1, 0]), (cd (Tryz.f156.body.getD .skip) [1, 1, 0, 1, 0, 0, 1, 1, 0, 0, 1, 1, 0, 0, 1, 1, 0])] (s156_p3_den K M1 M2) (fun i => (bif Nat.beq i 2 then (s156_p2_den K M1) else (bif Nat.beq i 1 then (s156_p2_den K M1) else (bif Nat.beq i 0 then (s156_p1_den K) else (fun _ _ => False))))) (s156_R K)
theorem s156_p4_ok (K : Value → World → Prop) (B1 : List Value → World → Prop) (B2 : List Value → World → Prop) (s : Nat → Value) (w : World) (h : s156_p4 K B1 B2 (s 1) (s 2) (s 3) (s 9) (s 11) (s 17) (s 18) (s 19) (s 24) (s 25) (s 26) w) : Tr (s156_p4_den K (fun s w => B1 [s 1, s 2, s 3, s 9, s 17, s 18, s 19] w) (fun s w => B2 [s 1, s 2, s 3, s 9, s 11, s 17, s 18, s 19, s 24, s 25, s 26] w) s w) :=
  tr_simple (P := Tryz.prog) (codes := [(cd (Tryz.f156.body.getD .skip) [1, 1, 0, 1, 0, 0, 1, 1, 0, 0, 1, 1, 0, 0, 0]), (cd (Tryz.f156.body.getD .skip) [1, 1, 0, 1, 0, 0, 1, 1, 0, 0, 1, 1, 0, 0, 1, 0]), (cd (Tryz.f156.body.getD .skip) [1, 1, 0, 1, 0, 0, 1, 1, 0, 0, 1, 1, 0, 0, 1, 1, 0])]) (N := (fun s w => s156_p3 K B1 B2 (s 1) (s 2) (s 3) (s 9) (s 11) (s 17) (s 18) (s 19) (s 24) (s 25) (s 26) w)) (N' := (s156_p3_den K (fun s w => B1 [s 1, s 2, s 3, s 9, s 17, s 18, s 19] w) (fun s w => B2 [s 1, s 2, s 3, s 9, s 11, s 17, s 18, s 19, s 24, s 25, s 26] w))) (X := (fun i => (bif Nat.beq i 2 then (fun s w => s156_p2 K B1 (s 1) (s 2) (s 3) (s 9) (s 17) (s 18) (s 19) w) else (bif Nat.beq i 1 then (fun s w => s156_p2 K B1 (s 1) (s 2) (s 3) (s 9) (s 17) (s 18) (s 19) w) else (bif Nat.beq i 0 then (fun s w => s156_p1 K (s 9) w) else (fun _ _ => False)))))) (X' := (fun i => (bif Nat.beq i 2 then (s156_p2_den K (fun s w => B1 [s 1, s 2, s 3, s 9, s 17, s 18, s 19] w)) else (bif Nat.beq i 1 then (s156_p2_den K (fun s w => B1 [s 1, s 2, s 3, s 9, s 17, s 18, s 19] w)) else (bif Nat.beq i 0 then (s156_p1_den K) else (fun _ _ => False)))))) (R := s156_R K) (s := s) (w := w) (p := s156_p4 K B1 B2 (s 1) (s 2) (s 3) (s 9) (s 11) (s 17) (s 18) (s 19) (s 24) (s 25) (s 26) w) (q := s156_p4_den K (fun s w => B1 [s 1, s 2, s 3, s 9, s 17, s 18, s 19] w) (fun s w => B2 [s 1, s 2, s 3, s 9, s 11, s 17, s 18, s 19, s 24, s 25, s 26] w) s w) (fun s w h => s156_p3_ok K B1 B2 s w @h) (fun i => (tr_bif (fun s w h => s156_p2_ok K B1 s w @h) (tr_bif (fun s w h => s156_p2_ok K B1 s w @h) (tr_bif (fun s w h => s156_p1_ok K s w @h) tr_id)))) (by kernel_rfl) (by kernel_rfl) @h
def s156_p5_F (K : Value → World → Prop) (B1 : List Value → World → Prop) (B2 : List Value → World → Prop) (l : List Value) (w : World) : Prop :=
  match l with
  | [t1, t2, t3, t9, t11, t17, t18, t19, t24, t25, t26] => s156_p4 K B1 B2 t1 t2 t3 t9 t11 t17 t18 t19 t24 t25 t26 w
  | _ => False
theorem s156_p5_Fe {K : Value → World → Prop} {B1 : List Value → World → Prop} {B2 : List Value → World → Prop} {t1 t2 t3 t9 t11 t17 t18 t19 t24 t25 t26 : Value} {w : World} : s156_p5_F K B1 B2 [t1, t2, t3, t9, t11, t17, t18, t19, t24, t25, t26] w = s156_p4 K B1 B2 t1 t2 t3 t9 t11 t17 t18 t19 t24 t25 t26 w := by kernel_rfl
def s156_p5 (K : Value → World → Prop) (B1 : List Value → World → Prop) (t1 t2 t3 t9 t11 t17 t18 t19 t24 t25 t26 : Value) (w : World) : Prop :=
  LoopL (s156_p5_F K B1) [t1, t2, t3, t9, t11, t17, t18, t19, t24, t25, t26] w
def s156_p5_den (K : Value → World → Prop) (M1 : (Nat → Value) → World → Prop) : (Nat → Value) → World → Prop := fun s w => LoopP (fun M2 s w => s156_p4_den K M1 M2 s w) s w
theorem s156_p5_ok (K : Value → World → Prop) (B1 : List Value → World → Prop) (s : Nat → Value) (w : World) (h : s156_p5 K B1 (s 1) (s 2) (s 3) (s 9) (s 11) (s 17) (s 18) (s 19) (s 24) (s 25) (s 26) w) : Tr (s156_p5_den K (fun s w => B1 [s 1, s 2, s 3, s 9, s 17, s 18, s 19] w) s w) :=
  tr_loop (G := fun N' s w => s156_p4_den K (fun s w => B1 [s 1, s 2, s 3, s 9, s 17, s 18, s 19] w) N' s w) (F := s156_p5_F K B1) (sel := fun s => [s 1, s 2, s 3, s 9, s 11, s 17, s 18, s 19, s 24, s 25, s 26]) (s := s) (w := w) (p := s156_p5 K B1 (s 1) (s 2) (s 3) (s 9) (s 11) (s 17) (s 18) (s 19) (s 24) (s 25) (s 26) w) (q := s156_p5_den K (fun s w => B1 [s 1, s 2, s 3, s 9, s 17, s 18, s 19] w) s w) (fun B s w h => s156_p4_ok K B1 B s w @h) (by kernel_rfl) (by kernel_rfl) @h
def s156_p6 (K : Value → World → Prop) (B1 : List Value → World → Prop) (t1 t2 t3 t9 t17 t18 t19 : Value) (w : World) : Prop :=
  ixs 7 t17 t19 (fun t21 w =>
  ldn 7 t21 (fun t22 w =>
  nw 85 #[(.int .i64 0), (.int .i64 0), (.int .i64 0), (.int .i64 0), (.int .i64 0), (.int .i64 0), (.slice none 0 0)] (fun t11 w =>
  stn 7 t11 t22 (fun w =>
  fd 6 t11 (fun t23 w =>
  ld1 t23 (fun t24 w =>
  lnS t24 (fun t25 w =>
  s156_p5 K B1 t1 t2 t3 t9 t11 t17 t18 t19 t24 t25 (.int .i64 0) w) w) w) w) w) w) w) w
def s156_p6_den (K : Value → World → Prop) (M1 : (Nat → Value) → World → Prop) : (Nat → Value) → World → Prop := denL Tryz.prog [(cd (Tryz.f156.body.getD .skip) [1, 1, 0, 1, 0, 0, 1, 1, 0, 0, 0]), (cd (Tryz.f156.body.getD .skip) [1, 1, 0, 1, 0, 0, 1, 1, 0, 0, 1, 0])] (s156_p5_den K M1) (fun i => (bif Nat.beq i 1 then (s156_p2_den K M1) else (bif Nat.beq i 0 then (s156_p1_den K) else (fun _ _ => False)))) (s156_R K)
theorem s156_p6_ok (K : Value → World → Prop) (B1 : List Value → World → Prop) (s : Nat → Value) (w : World) (h : s156_p6 K B1 (s 1) (s 2) (s 3) (s 9) (s 17) (s 18) (s 19) w) : Tr (s156_p6_den K (fun s w => B1 [s 1, s 2, s 3, s 9, s 17, s 18, s 19] w) s w) :=
  tr_simple (P := Tryz.prog) (codes := [(cd (Tryz.f156.body.getD .skip) [1, 1, 0, 1, 0, 0, 1, 1, 0, 0, 0]), (cd (Tryz.f156.body.getD .skip) [1, 1, 0, 1, 0, 0, 1, 1, 0, 0, 1, 0])]) (N := (fun s w => s156_p5 K B1 (s 1) (s 2) (s 3) (s 9) (s 11) (s 17) (s 18) (s 19) (s 24) (s 25) (s 26) w)) (N' := (s156_p5_den K (fun s w => B1 [s 1, s 2, s 3, s 9, s 17, s 18, s 19] w))) (X := (fun i => (bif Nat.beq i 1 then (fun s w => s156_p2 K B1 (s 1) (s 2) (s 3) (s 9) (s 17) (s 18) (s 19) w) else (bif Nat.beq i 0 then (fun s w => s156_p1 K (s 9) w) else (fun _ _ => False))))) (X' := (fun i => (bif Nat.beq i 1 then (s156_p2_den K (fun s w => B1 [s 1, s 2, s 3, s 9, s 17, s 18, s 19] w)) else (bif Nat.beq i 0 then (s156_p1_den K) else (fun _ _ => False))))) (R := s156_R K) (s := s) (w := w) (p := s156_p6 K B1 (s 1) (s 2) (s 3) (s 9) (s 17) (s 18) (s 19) w) (q := s156_p6_den K (fun s w => B1 [s 1, s 2, s 3, s 9, s 17, s 18, s 19] w) s w) (fun s w h => s156_p5_ok K B1 s w @h) (fun i => (tr_bif (fun s w h => s156_p2_ok K B1 s w @h) (tr_bif (fun s w h => s156_p1_ok K s w @h) tr_id))) (by kernel_rfl) (by kernel_rfl) @h
def s156_p7 (K : Value → World → Prop) (B1 : List Value → World → Prop) (t1 t2 t3 t9 t17 t18 t19 : Value) (w : World) : Prop :=
  boI .lss t19 t18 (fun t20 w =>
  ifb t20
  (s156_p6 K B1 t1 t2 t3 t9 t17 t18 t19 w)
  (s156_p1 K t9 w)) w
def s156_p7_den (K : Value → World → Prop) (M1 : (Nat → Value) → World → Prop) : (Nat → Value) → World → Prop := denL Tryz.prog [(cd (Tryz.f156.body.getD .skip) [1, 1, 0, 1, 0, 0, 0]), (cd (Tryz.f156.body.getD .skip) [1, 1, 0, 1, 0, 0, 1, 0])] (s156_p6_den K M1) (fun i => (bif Nat.beq i 0 then (s156_p1_den K) else (fun _ _ => False))) (s156_R K)
theorem s156_p7_ok (K : Value → World → Prop) (B1 : List Value → World → Prop) (s : Nat → Value) (w : World) (h : s156_p7 K B1 (s 1) (s 2) (s 3) (s 9) (s 17) (s 18) (s 19) w) : Tr (s156_p7_den K (fun s w => B1 [s 1, s 2, s 3, s 9, s 17, s 18, s 19] w) s w) :=
  tr_simple (P := Tryz.prog) (codes := [(cd (Tryz.f156.body.getD .skip) [1, 1, 0, 1, 0, 0, 0]), (cd (Tryz.f156.body.getD .skip) [1, 1, 0, 1, 0, 0, 1, 0])]) (N := (fun s w => s156_p6 K B1 (s 1) (s 2) (s 3) (s 9) (s 17) (s 18) (s 19) w)) (N' := (s156_p6_den K (fun s w => B1 [s 1, s 2, s 3, s 9, s 17, s 18, s 19] w))) (X := (fun i => (bif Nat.beq i 0 then (fun s w => s156_p1 K (s 9) w) else (fun _ _ => False)))) (X' := (fun i => (bif Nat.beq i 0 then (s156_p1_den K) else (fun _ _ => False)))) (R := s156_R K) (s := s) (w := w) (p := s156_p7 K B1 (s 1) (s 2) (s 3) (s 9) (s 17) (s 18) (s 19) w) (q := s156_p7_den K (fun s w => B1 [s 1, s 2, s 3, s 9, s 17, s 18, s 19] w) s w) (fun s w h => s156_p6_ok K B1 s w @h) (fun i => (tr_bif (fun s w h => s156_p1_ok K s w @h) tr_id)) (by kernel_rfl) (by kernel_rfl) @h
def s156_p8_F (K : Value → World → Prop) (B1 : List Value → World → Prop) (l : List Value) (w : World) : Prop :=
  match l with
  | [t1, t2, t3, t9, t17, t18, t19] => s156_p7 K B1 t1 t2 t3 t9 t17 t18 t19 w
  | _ => False
theorem s156_p8_Fe {K : Value → World → Prop} {B1 : List Value → World → Prop} {t1 t2 t3 t9 t17 t18 t19 : Value} {w : World} : s156_p8_F K B1 [t1, t2, t3, t9, t17, t18, t19] w = s156_p7 K B1 t1 t2 t3 t9 t17 t18 t19 w := by kernel_rfl
def s156_p8 (K : Value → World → Prop) (t1 t2 t3 t9 t17 t18 t19 : Value) (w : World) : Prop :=
  LoopL (s156_p8_F K) [t1, t2, t3, t9, t17, t18, t19] w
def s156_p8_den (K : Value → World → Prop) : (Nat → Value) → World → Prop := fun s w => LoopP (fun M1 s w => s156_p7_den K M1 s w) s w
theorem s156_p8_ok (K : Value → World → Prop) (s : Nat → Value) (w : World) (h : s156_p8 K (s 1) (s 2) (s 3) (s 9) (s 17) (s 18) (s 19) w) : Tr (s156_p8_den K s w) :=
  tr_loop (G := fun N' s w => s156_p7_den K N' s w) (F := s156_p8_F K) (sel := fun s => [s 1, s 2, s 3, s 9, s 17, s 18, s 19]) (s := s) (w := w) (p := s156_p8 K (s 1) (s 2) (s 3) (s 9) (s 17) (s 18) (s 19) w) (q := s156_p8_den K s w) (fun B s w h => s156_p7_ok K B s w @h) (by kernel_rfl) (by kernel_rfl) @h
def s156_p9 (K : Value → World → Prop) (t0 t1 t2 t3 : Value) (w : World) : Prop :=
  nck t0 (fun t15 w =>
  fd 15 t15 (fun t16 w =>
  ld1 t16 (fun t17 w =>
  lnS t17 (fun t18 w =>
  s156_p8 K t1 t2 t3 (.int .i64 0) t17 t18 (.int .i64 0) w) w) w) w) w
def s156_p9_den (K : Value → World → Prop) : (Nat → Value) → World → Prop := denL Tryz.prog [(cd (Tryz.f156.body.getD .skip) [0]), (cd (Tryz.f156.body.getD .skip) [1, 0]), (cd (Tryz.f156.body.getD .skip) [1, 1, 0, 0])] (s156_p8_den K) (fun i => (fun _ _ => False)) (s156_R K)
theorem s156_p9_ok (K : Value → World → Prop) (s : Nat → Value) (w : World) (h : s156_p9 K (s 0) (s 1) (s 2) (s 3) w) : Tr (s156_p9_den K s w) :=
  tr_simple (P := Tryz.prog) (codes := [(cd (Tryz.f156.body.getD .skip) [0]), (cd (Tryz.f156.body.getD .skip) [1, 0]), (cd (Tryz.f156.body.getD .skip) [1, 1, 0, 0])]) (N := (fun s w => s156_p8 K (s 1) (s 2) (s 3) (s 9) (s 17) (s 18) (s 19) w)) (N' := (s156_p8_den K)) (X := (fun i => (fun _ _ => False))) (X' := (fun i => (fun _ _ => False))) (R := s156_R K) (s := s) (w := w) (p := s156_p9 K (s 0) (s 1) (s 2) (s 3) w) (q := s156_p9_den K s w) (fun s w h => s156_p8_ok K s w @h) (fun i => tr_id) (by kernel_rfl) (by kernel_rfl) @h
/-- the call, from the text -/
theorem c156 (t0 t1 t2 t3 : Value) {K : Value → World → Prop} {w : World} (h : s156_p9 K t0 t1 t2 t3 w) : cl Tryz.prog 156 #[t0, t1, t2, t3] K w :=
  calls_of_tr (c := (Tryz.f156.body.getD .skip)) (fn := Tryz.f156) (q := s156_p9_den K (st0 #[t0, t1, t2, t3]) w) Tryz.func156 (by kernel_rfl) (by kernel_rfl) (Nat.le_of_ble_eq_true (by kernel_rfl)) (by kernel_rfl) (by kernel_rfl) (s156_p9_ok K (st0 #[t0, t1, t2, t3]) w @h)

/-! ### function 190 : (*e2e.enginem.State).CapacityHolds -/
def s190_R (K : Value → World → Prop) (s : Nat → Value) (w : World) : Prop := retv Tryz.prog s Tryz.f190.results.toList (fun vs => K (pack vs) w) w
def s190_p1 (K : Value → World → Prop) (w : World) : Prop :=
  K (.bool true) w
def s190_p1_den (K : Value → World → Prop) : (Nat → Value) → World → Prop := denL Tryz.prog [(cd (Tryz.f190.body.getD .skip) [1, 1, 0]), (cd (Tryz.f190.body.getD .skip) [1, 1, 1])] (fun _ _ => False) (fun i => (fun _ _ => False)) (s190_R K)
theorem s190_p1_ok (K : Value → World → Prop) (s : Nat → Value) (w : World) (h : s190_p1 K w) : Tr (s190_p1_den K s w) :=
  tr_simple (P := Tryz.prog) (codes := [(cd (Tryz.f190.body.getD .skip) [1, 1, 0]), (cd (Tryz.f190.body.getD .skip) [1, 1, 1])]) (N := (fun _ _ => False)) (N' := (fun _ _ => False)) (X := (fun i => (fun _ _ => False))) (X' := (fun i => (fun _ _ => False))) (R := s190_R K) (s := s) (w := w) (p := s190_p1 K w) (q := s190_p1_den K s w) tr_id (fun i => tr_id) (by kernel_rfl) (by kernel_rfl) @h
def s190_p2 (K : Value → World → Prop) (B1 : List Value → World → Prop) (t0 t10 t11 : Value) (w : World) : Prop :=
  boI .add t11 (.int .i64 1) (fun t34 w =>
  B1 [t0, t10, t34] w) w
def s190_p2_den (K : Value → World → Prop) (M1 : (Nat → Value) → World → Prop) : (Nat → Value) → World → Prop := denL Tryz.prog [(cd (Tryz.f190.body.getD .skip) [1, 0, 1, 0, 0, 1, 1, 1])] M1 (fun i => (bif Nat.beq i 0 then (s190_p1_den K) else (fun _ _ => False))) (s190_R K)
theorem s190_p2_ok (K : Value → World → Prop) (B1 : List Value → World → Prop) (s : Nat → Value) (w : World) (h : s190_p2 K B1 (s 0) (s 10) (s 11) w) : Tr (s190_p2_den K (fun s w => B1 [s 0, s 10, s 11] w) s w) :=
  tr_simple (P := Tryz.prog) (codes := [(cd (Tryz.f190.body.getD .skip) [1, 0, 1, 0, 0, 1, 1, 1])]) (N := (fun s w => B1 [s 0, s 10, s 11] w)) (N' := (fun s w => B1 [s 0, s 10, s 11] w)) (X := (fun i => (bif Nat.beq i 0 then (fun s w => s190_p1 K w) else (fun _ _ => False)))) (X' := (fun i => (bif Nat.beq i 0 then (s190_p1_den K) else (fun _ _ => False)))) (R := s190_R K) (s := s) (w := w) (p := s190_p2 K B1 (s 0) (s 10) (s 11) w) (q := s190_p2_den K (fun s w => B1 [s 0, s 10, s 11] w) s w) tr_id (fun i => (tr_bif (fun s w h => s190_p1_ok K s w @h) tr_id)) (by kernel_rfl) (by kernel_rfl) @h
def s190_p3 (K : Value → World → Prop) (B1 : List Value → World → Prop) (B2 : List Value → World → Prop) (t0 t3 t4 t10 t11 : Value) (w : World) : Prop :=
  boI .add t4 (.int .i64 1) (fun t19 w =>
  B2 [t0, t3, t19, t10, t11] w) w
def s190_p3_den (K : Value → World → Prop) (M1 : (Nat → Value) → World → Prop) (M2 : (Nat → Value) → World → Prop) : (Nat → Value) → World → Prop := denL Tryz.prog [(cd (Tryz.f190.body.getD .skip) [1, 0, 1, 0, 0, 1, 1, 0, 0, 1, 1, 0, 0, 1, 1])] M2 (fun i => (bif Nat.beq i 2 then (s190_p2_den K M1) else (bif Nat.beq i 1 then (s190_p2_den K M1) else (bif Nat.beq i 0 then (s190_p1_den K) else (fun _ _ => False))))) (s190_R K)
theorem s190_p3_ok (K : Value → World → Prop) (B1 : List Value → World → Prop) (B2 : List Value → World → Prop) (s : Nat → Value) (w : World) (h : s190_p3 K B1 B2 (s 0) (s 3) (s 4) (s 10) (s 11) w) : Tr (s190_p3_den K (fun s w => B1 [s 0, s 10, s 11] w) (fun s w => B2 [s 0, s 3, s 4, s 10, s 11] w) s w) :=
  tr_simple (P := Tryz.prog) (codes := [(cd (Tryz.f190.body.getD .skip) [1, 0, 1, 0, 0, 1, 1, 0, 0, 1, 1, 0, 0, 1, 1])]) (N := (fun s w => B2 [s 0, s 3, s 4, s 10, s 11] w)) (N' := (fun s w => B2 [s 0, s 3, s 4, s 10, s 11] w)) (X := (fun i => (bif Nat.beq i 2 then (fun s w => s190_p2 K B1 (s 0) (s 10) (s 11) w) else (bif Nat.beq i 1 then (fun s w => s190_p2 K B1 (s 0) (s 10) (s 11) w) else (bif Nat.beq i 0 then (fun s w => s190_p1 K w) else (fun _ _ => False)))))) (X' := (fun i => (bif Nat.beq i 2 then (s190_p2_den K (fun s w => B1 [s 0, s 10, s 11] w)) else (bif Nat.beq i 1 then (s190_p2_den K (fun s w => B1 [s 0, s 10, s 11] w)) else (bif Nat.beq i 0 then (s190_p1_den K) else (fun _ _ => False)))))) (R := s190_R K) (s := s) (w := w) (p := s190_p3 K B1 B2 (s 0) (s 3) (s 4) (s 10) (s 11) w) (q := s190_p3_den K (fun s w => B1 [s 0, s 10, s 11] w) (fun s w => B2 [s 0, s 3, s 4, s 10, s 11] w) s w) tr_id (fun i => (tr_bif (fun s w h => s190_p2_ok K B1 s w @h) (tr_bif (fun s w h => s190_p2_ok K B1 s w @h) (tr_bif (fun s w h => s190_p1_ok K s w @h) tr_id)))) (by kernel_rfl) (by kernel_rfl) @h
def s190_p4 (K : Value → World → Prop) (B1 : List Value → World → Prop) (B2 : List Value → World → Prop) (t0 t3 t4 t10 t11 t33 : Value) (w : World) : Prop :=
  ifb t33
  (K (.bool false) w)
  (s190_p3 K B1 B2 t0 t3 t4 t10 t11 w)
def s190_p4_den (K : Value → World → Prop) (M1 : (Nat → Value) → World → Prop) (M2 : (Nat → Value) → World → Prop) : (Nat → Value) → World → Prop := denL Tryz.prog [(cd (Tryz.f190.body.getD .skip) [1, 0, 1, 0, 0, 1, 1, 0, 0, 1, 1, 0, 0, 1, 0, 0, 1])] (s190_p3_den K M1 M2) (fun i => (bif Nat.beq i 3 then (s190_p3_den K M1 M2) else (bif Nat.beq i 2 then (s190_p2_den K M1) else (bif Nat.beq i 1 then (s190_p2_den K M1) else (bif Nat.beq i 0 then (s190_p1_den K) else (fun _ _ => False)))))) (s190_R K)
theorem s190_p4_ok (K : Value → World → Prop) (B1 : List Value → World → Prop) (B2 : List Value → World → Prop) (s : Nat → Value) (w : World) (h : s190_p4 K B1 B2 (s 0) (s 3) (s 4) (s 10) (s 11) (s 33) w) : Tr (s190_p4_den K (fun s w => B1 [s 0, s 10, s 11] w) (fun s w => B2 [s 0, s 3, s 4, s 10, s 11] w) s w) :=
  tr_simple (P := Tryz.prog) (codes := [(cd (Tryz.f190.body.getD .skip) [1, 0, 1, 0, 0, 1, 1, 0, 0, 1, 1, 0, 0, 1, 0, 0, 1])]) (N := (fun s w => s190_p3 K B1 B2 (s 0) (s 3) (s 4) (s 10) (s 11) w)) (N' := (s190_p3_den K (fun s w => B1 [s 0, s 10, s 11] w) (fun s w => B2 [s 0, s 3, s 4, s 10, s 11] w))) (X := (fun i => (bif Nat.beq i 3 then (fun s w => s190_p3 K B1 B2 (s 0) (s 3) (s 4) (s 10) (s 11) w) else (bif Nat.beq i 2 then (fun s w => s190_p2 K B1 (s 0) (s 10) (s 11) w) else (bif Nat.beq i 1 then (fun s w => s190_p2 K B1 (s 0) (s 10) (s 11) w) else (bif Nat.beq i 0 then (fun s w => s190_p1 K w) else (fun _ _ => False))))))) (X' := (fun i => (bif Nat.beq i 3 then (s190_p3_den K (fun s w => B1 [s 0, s 10, s 11] w) (fun s w => B2 [s 0, s 3, s 4, s 10, s 11] w)) else (bif Nat.beq i 2 then (s190_p2_den K (fun s w => B1 [s 0, s 10, s 11] w)) else (bif Nat.beq i 1 then (s190_p2_den K (fun s w => B1 [s 0, s 10, s 11] w)) else (bif Nat.beq i 0 then (s190_p1_den K) else (fun _ _ => False))))))) (R := s190_R K) (s := s) (w := w) (p := s190_p4 K B1 B2 (s 0) (s 3) (s 4) (s 10) (s 11) (s 33) w) (q := s190_p4_den K (fun s w => B1 [s 0, s 10, s 11] w) (fun s w => B2 [s 0, s 3, s 4, s 10, s 11] w) s w) (fun s w h => s190_p3_ok K B1 B2 s w @h) (fun i => (tr_bif (fun s w h => s190_p3_ok K B1 B2 s w @h) (tr_bif (fun s w h => s190_p2_ok K B1 s w @h) (tr_bif (fun s w h => s190_p2_ok K B1 s w @h) (tr_bif (fun s w h => s190_p1_ok K s w @h) tr_id))))) (by kernel_rfl) (by kernel_rfl) @h
def s190_p5_d (K : Value → World → Prop) (B1 : List Value → World → Prop) (B2 : List Value → World → Prop) (t0 t3 t4 t10 t11 : Value) (w0 w : World) : Prop :=
  nck t0 (fun t25 _ =>
  fd 0 t25 (fun t26 _ =>
  fd 0 t26 (fun t27 _ =>
  ld1 t27 (fun t28 _ =>
  ixs 5 t28 t3 (fun t30 _ =>
  fd 0 t30 (fun t31 _ =>
  ld1 t31 (fun t32 _ =>
  cl Tryz.prog 155 #[t0, t3, t4] (fun t23 w =>
  Below w0.heap.size w0 w ∧
  boI .gtr t23 t32 (fun t33 w =>
  s190_p4 K B1 B2 t0 t3 t4 t10 t11 t33 w) w) w) w0) w0) w0) w0) w0) w0) w0
def s190_p5 (K : Value → World → Prop) (B1 : List Value → World → Prop) (B2 : List Value → World → Prop) (t0 t3 t4 t10 t11 : Value) (w : World) : Prop := s190_p5_d K B1 B2 t0 t3 t4 t10 t11 (drw w) (drw w)
def s190_p5_den (K : Value → World → Prop) (M1 : (Nat → Value) → World → Prop) (M2 : (Nat → Value) → World → Prop) : (Nat → Value) → World → Prop := denL Tryz.prog [(cd (Tryz.f190.body.getD .skip) [1, 0, 1, 0, 0, 1, 1, 0, 0, 1, 1, 0, 0, 1, 0, 0, 0])] (s190_p4_den K M1 M2) (fun i => (bif Nat.beq i 3 then (s190_p3_den K M1 M2) else (bif Nat.beq i 2 then (s190_p2_den K M1) else (bif Nat.beq i 1 then (s190_p2_den K M1) else (bif Nat.beq i 0 then (s190_p1_den K) else (fun _ _ => False)))))) (s190_R K)
theorem s190_p5_ok (K : Value → World → Prop) (B1 : List Value → World → Prop) (B2 : List Value → World → Prop) (s : Nat → Value) (w : World) (h : s190_p5 K B1 B2 (s 0) (s 3) (s 4) (s 10) (s 11) w) : Tr (s190_p5_den K (fun s w => B1 [s 0, s 10, s 11] w) (fun s w => B2 [s 0, s 3, s 4, s 10, s 11] w) s w) :=
  tr_draw (P := Tryz.prog) (ops := (ro (cd (Tryz.f190.body.getD .skip) [1, 0, 1, 0, 0, 1, 1, 0, 0, 1, 1, 0, 0, 1, 0, 0, 0]))) (ms := [0, 0, 0, 7, 0, 16, 48, 112, 240, 0, 1008, 2032, 4080, 8191]) (cs := [0, 1, 2, 4, 5, 6, 7, 8, 9, 10, 11, 12]) (N := (fun s w => s190_p4 K B1 B2 (s 0) (s 3) (s 4) (s 10) (s 11) (s 33) w)) (N' := (s190_p4_den K (fun s w => B1 [s 0, s 10, s 11] w) (fun s w => B2 [s 0, s 3, s 4, s 10, s 11] w))) (s := s) (w := w) (p := s190_p5 K B1 B2 (s 0) (s 3) (s 4) (s 10) (s 11) w) (q := s190_p5_den K (fun s w => B1 [s 0, s 10, s 11] w) (fun s w => B2 [s 0, s 3, s 4, s 10, s 11] w) s w) (by kernel_rfl) (by kernel_rfl) (fun s w h => s190_p4_ok K B1 B2 s w @h) (by kernel_rfl) (by kernel_rfl) @h
def s190_p6 (K : Value → World → Prop) (B1 : List Value → World → Prop) (B2 : List Value → World → Prop) (t0 t3 t4 t10 t11 : Value) (w : World) : Prop :=
  cl Tryz.prog 227 #[t0] (fun t16 w =>
  boI .leq t4 t16 (fun t17 w =>
  ifb t17
  (s190_p5 K B1 B2 t0 t3 t4 t10 t11 w)
  (s190_p2 K B1 t0 t10 t11 w)) w) w
def s190_p6_den (K : Value → World → Prop) (M1 : (Nat → Value) → World → Prop) (M2 : (Nat → Value) → World → Prop) : (Nat → Value) → World → Prop := denL Tryz.prog [(cd (Tryz.f190.body.getD .skip) [1, 0, 1, 0, 0, 1, 1, 0, 0, 1, 1, 0, 0, 0, 0]), (cd (Tryz.f190.body.getD .skip) [1, 0, 1, 0, 0, 1, 1, 0, 0, 1, 1, 0, 0, 0, 1])] (s190_p5_den K M1 M2) (fun i => (bif Nat.beq i 2 then (s190_p2_den K M1) else (bif Nat.beq i 1 then (s190_p2_den K M1) else (bif Nat.beq i 0 then (s190_p1_den K) else (fun _ _ => False))))) (s190_R K)
theorem s190_p6_ok (K : Value → World → Prop) (B1 : List Value → World → Prop) (B2 : List Value → World → Prop) (s : Nat → Value) (w : World) (h : s190_p6 K B1 B2 (s 0) (s 3) (s 4) (s 10) (s 11) w) : Tr (s190_p6_den K (fun s w => B1 [s 0, s 10, s 11] w) (fun s w => B2 [s 0, s 3, s 4, s 10, s 11] w) s w) :=
  tr_simple (P := Tryz.prog) (codes := [(cd (Tryz.f190.body.getD .skip) [1, 0, 1, 0, 0, 1, 1, 0, 0, 1, 1, 0, 0, 0, 0]), (cd (Tryz.f190.body.getD .skip) [1, 0, 1, 0, 0, 1, 1, 0, 0, 1, 1, 0, 0, 0, 1])]) (N := (fun s w => s190_p5 K B1 B2 (s 0) (s 3) (s 4) (s 10) (s 11) w)) (N' := (s190_p5_den K (fun s w => B1 [s 0, s 10, s 11] w) (fun s w => B2 [s 0, s 3, s 4, s 10, s 11] w))) (X := (fun i => (bif Nat.beq i 2 then (fun s w => s190_p2 K B1 (s 0) (s 10) (s 11) w) else (bif Nat.beq i 1 then (fun s w => s190_p2 K B1 (s 0) (s 10) (s 11) w) else (bif Nat.beq i 0 then (fun s w => s190_p1 K w) else (fun _ _ => False)))))) (X' := (fun i => (bif Nat.beq i 2 then (s190_p2_den K (fun s w => B1 [s 0, s 10, s 11] w)) else (bif Nat.beq i 1 then (s190_p2_den K (fun s w => B1 [s 0, s 10, s 11] w)) else (bif Nat.beq i 0 then (s190_p1_den K) else (fun _ _ => False)))))) (R := s190_R K) (s := s) (w := w) (p := s190_p6 K B1 B2 (s 0) (s 3) (s 4) (s 10) (s 11) w) (q := s190_p6_den K (fun s w => B1 [s 0, s 10, s 11] w) (fun s w => B2 [s 0, s 3, s 4, s 10, s 11] w) s w) (fun s w h => s190_p5_ok K B1 B2 s w @h) (fun i => (tr_bif (fun s w h => s190_p2_ok K B1 s w @h) (tr_bif (fun s w h => s190_p2_ok K B1 s w @h) (tr_bif (fun s w h => s190_p1_ok K s w @h) tr_id)))) (by kernel_rfl) (by kernel_rfl) @h
def s190_p7_F (K : Value → World → Prop) (B1 : List Value → World → Prop) (B2 : List Value → World → Prop) (l : List Value) (w : World) : Prop :=
  match l with
  | [t0, t3, t4, t10, t11] => s190_p6 K B1 B2 t0 t3 t4 t10 t11 w
  | _ => False
theorem s190_p7_Fe {K : Value → World → Prop} {B1 : List Value → World → Prop} {B2 : List Value → World → Prop} {t0 t3 t4 t10 t11 : Value} {w : World} : s190_p7_F K B1 B2 [t0, t3, t4, t10, t11] w = s190_p6 K B1 B2 t0 t3 t4 t10 t11 w := by kernel_rfl
def s190_p7 (K : Value → World → Prop) (B1 : List Value → World → Prop) (t0 t3 t4 t10 t11 : Value) (w : World) : Prop :=
  LoopL (s190_p7_F K B1) [t0, t3, t4, t10, t11] w
def s190_p7_den (K : Value → World → Prop) (M1 : (Nat → Value) → World → Prop) : (Nat → Value) → World → Prop := fun s w => LoopP (fun M2 s w => s190_p6_den K M1 M2 s w) s w
theorem s190_p7_ok (K : Value → World → Prop) (B1 : List Value → World → Prop) (s : Nat → Value) (w : World) (h : s190_p7 K B1 (s 0) (s 3) (s 4) (s 10) (s 11) w) : Tr (s190_p7_den K (fun s w => B1 [s 0, s 10, s 11] w) s w) :=
  tr_loop (G := fun N' s w => s190_p6_den K (fun s w => B1 [s 0, s 10, s 11] w) N' s w) (F := s190_p7_F K B1) (sel := fun s => [s 0, s 3, s 4, s 10, s 11]) (s := s) (w := w) (p := s190_p7 K B1 (s 0) (s 3) (s 4) (s 10) (s 11) w) (q := s190_p7_den K (fun s w => B1 [s 0, s 10, s 11] w) s w) (fun B s w h => s190_p6_ok K B1 B s w @h) (by kernel_rfl) (by kernel_rfl) @h
def s190_p8 (K : Value → World → Prop) (B1 : List Value → World → Prop) (t0 t10 t11 : Value) (w : World) : Prop :=
  s190_p7 K B1 t0 t11 (.int .i64 0) t10 t11 w
def s190_p8_den (K : Value → World → Prop) (M1 : (Nat → Value) → World → Prop) : (Nat → Value) → World → Prop := denL Tryz.prog [(cd (Tryz.f190.body.getD .skip) [1, 0, 1, 0, 0, 1, 1, 0, 0, 0]), (cd (Tryz.f190.body.getD .skip) [1, 0, 1, 0, 0, 1, 1, 0, 0, 1, 0])] (s190_p7_den K M1) (fun i => (bif Nat.beq i 1 then (s190_p2_den K M1) else (bif Nat.beq i 0 then (s190_p1_den K) else (fun _ _ => False)))) (s190_R K)
theorem s190_p8_ok (K : Value → World → Prop) (B1 : List Value → World → Prop) (s : Nat → Value) (w : World) (h : s190_p8 K B1 (s 0) (s 10) (s 11) w) : Tr (s190_p8_den K (fun s w => B1 [s 0, s 10, s 11] w) s w) :=
  tr_simple (P := Tryz.prog) (codes := [(cd (Tryz.f190.body.getD .skip) [1, 0, 1, 0, 0, 1, 1, 0, 0, 0]), (cd (Tryz.f190.body.getD .skip) [1, 0, 1, 0, 0, 1, 1, 0, 0, 1, 0])]) (N := (fun s w => s190_p7 K B1 (s 0) (s 3) (s 4) (s 10) (s 11) w)) (N' := (s190_p7_den K (fun s w => B1 [s 0, s 10, s 11] w))) (X := (fun i => (bif Nat.beq i 1 then (fun s w => s190_p2 K B1 (s 0) (s 10) (s 11) w) else (bif Nat.beq i 0 then (fun s w => s190_p1 K w) else (fun _ _ => False))))) (X' := (fun i => (bif Nat.beq i 1 then (s190_p2_den K (fun s w => B1 [s 0, s 10, s 11] w)) else (bif Nat.beq i 0 then (s190_p1_den K) else (fun _ _ => False))))) (R := s190_R K) (s := s) (w := w) (p := s190_p8 K B1 (s 0) (s 10) (s 11) w) (q := s190_p8_den K (fun s w => B1 [s 0, s 10, s 11] w) s w) (fun s w h => s190_p7_ok K B1 s w @h) (fun i => (tr_bif (fun s w h => s190_p2_ok K B1 s w @h) (tr_bif (fun s w h => s190_p1_ok K s w @h) tr_id))) (by kernel_rfl) (by kernel_rfl) @h
def s190_p9 (K : Value → World → Prop) (B1 : List Value → World → Prop) (t0 t10 t11 : Value) (w : World) : Prop :=
  boI .lss t11 t10 (fun t12 w =>
  ifb t12
  (s190_p8 K B1 t0 t10 t11 w)
  (s190_p1 K w)) w
def s190_p9_den (K : Value → World → Prop) (M1 : (Nat → Value) → World → Prop) : (Nat → Value) → World → Prop := denL Tryz.prog [(cd (Tryz.f190.body.getD .skip) [1, 0, 1, 0, 0, 0]), (cd (Tryz.f190.body.getD .skip) [1, 0, 1, 0, 0, 1, 0])] (s190_p8_den K M1) (fun i => (bif Nat.beq i 0 then (s190_p1_den K) else (fun _ _ => False))) (s190_R K)
theorem s190_p9_ok (K : Value → World → Prop) (B1 : List Value → World → Prop) (s : Nat → Value) (w : World) (h : s190_p9 K B1 (s 0) (s 10) (s 11) w) : Tr (s190_p9_den K (fun s w => B1 [s 0, s 10, s 11] w) s w) :=
  tr_simple (P := Tryz.prog) (codes := [(cd (Tryz.f190.body.getD .skip) [1, 0, 1, 0, 0, 0]), (cd (Tryz.f190.body.getD .skip) [1, 0, 1, 0, 0, 1, 0])]) (N := (fun s w => s190_p8 K B1 (s 0) (s 10) (s 11) w)) (N' := (s190_p8_den K (fun s w => B1 [s 0, s 10, s 11] w))) (X := (fun i => (bif Nat.beq i 0 then (fun s w => s190_p1 K w) else (fun _ _ => False)))) (X' := (fun i => (bif Nat.beq i 0 then (s190_p1_den K) else (fun _ _ => False)))) (R := s190_R K) (s := s) (w := w) (p := s190_p9 K B1 (s 0) (s 10) (s 11) w) (q := s190_p9_den K (fun s w => B1 [s 0, s 10, s 11] w) s w) (fun s w h => s190_p8_ok K B1 s w @h) (fun i => (tr_bif (fun s w h => s190_p1_ok K s w @h) tr_id)) (by kernel_rfl) (by kernel_rfl) @h
def s190_p10_F (K : Value → World → Prop) (B1 : List Value → World → Prop) (l : List Value) (w : World) : Prop :=
  match l with
  | [t0, t10, t11] => s190_p9 K B1 t0 t10 t11 w
  | _ => False
theorem s190_p10_Fe {K : Value → World → Prop} {B1 : List Value → World → Prop} {t0 t10 t11 : Value} {w : World} : s190_p10_F K B1 [t0, t10, t11] w = s190_p9 K B1 t0 t10 t11 w := by kernel_rfl
def s190_p10 (K : Value → World → Prop) (t0 t10 t11 : Value) (w : World) : Prop :=
  LoopL (s190_p10_F K) [t0, t10, t11] w
def s190_p10_den (K : Value → World → Prop) : (Nat → Value) → World → Prop := fun s w => LoopP (fun M1 s w => s190_p9_den K M1 s w) s w
theorem s190_p10_ok (K : Value → World → Prop) (s : Nat → Value) (w : World) (h : s190_p10 K (s 0) (s 10) (s 11) w) : Tr (s190_p10_den K s w) :=
  tr_loop (G := fun N' s w => s190_p9_den K N' s w) (F := s190_p10_F K) (sel := fun s => [s 0, s 10, s 11]) (s := s) (w := w) (p := s190_p10 K (s 0) (s 10) (s 11) w) (q := s190_p10_den K s w) (fun B s w h => s190_p9_ok K B s w @h) (by kernel_rfl) (by kernel_rfl) @h
def s190_p11 (K : Value → World → Prop) (t0 : Value) (w : World) : Prop :=
  nck t0 (fun t6 w =>
  fd 0 t6 (fun t7 w =>
  fd 0 t7 (fun t8 w =>
  ld1 t8 (fun t9 w =>
  lnS t9 (fun t10 w =>
  s190_p10 K t0 t10 (.int .i64 0) w) w) w) w) w) w
def s190_p11_den (K : Value → World → Prop) : (Nat → Value) → World → Prop := denL Tryz.prog [(cd (Tryz.f190.body.getD .skip) [0]), (cd (Tryz.f190.body.getD .skip) [1, 0, 0])] (s190_p10_den K) (fun i => (fun _ _ => False)) (s190_R K)
theorem s190_p11_ok (K : Value → World → Prop) (s : Nat → Value) (w : World) (h : s190_p11 K (s 0) w) : Tr (s190_p11_den K s w) :=
  tr_simple (P := Tryz.prog) (codes := [(cd (Tryz.f190.body.getD .skip) [0]), (cd (Tryz.f190.body.getD .skip) [1, 0, 0])]) (N := (fun s w => s190_p10 K (s 0) (s 10) (s 11) w)) (N' := (s190_p10_den K)) (X := (fun i => (fun _ _ => False))) (X' := (fun i => (fun _ _ => False))) (R := s190_R K) (s := s) (w := w) (p := s190_p11 K (s 0) w) (q := s190_p11_den K s w) (fun s w h => s190_p10_ok K s w @h) (fun i => tr_id) (by kernel_rfl) (by kernel_rfl) @h
/-- the call, from the text -/
theorem c190 (t0 : Value) {K : Value → World → Prop} {w : World} (h : s190_p11 K t0 w) : cl Tryz.prog 190 #[t0] K w :=
  calls_of_tr (c := (Tryz.f190.body.getD .skip)) (fn := Tryz.f190) (q := s190_p11_den K (st0 #[t0]) w) Tryz.func190 (by kernel_rfl) (by kernel_rfl) (Nat.le_of_ble_eq_true (by kernel_rfl)) (by kernel_rfl) (by kernel_rfl) (s190_p11_ok K (st0 #[t0]) w @h)

/-! ### function 191 : (*e2e.enginem.State).QuotaHolds -/
def s191_R (K : Value → World → Prop) (s : Nat → Value) (w : World) : Prop := retv Tryz.prog s Tryz.f191.results.toList (fun vs => K (pack vs) w) w
def s191_p1 (K : Value → World → Prop) (w : World) : Prop :=
  K (.bool true) w
def s191_p1_den (K : Value → World → Prop) : (Nat → Value) → World → Prop := denL Tryz.prog [(cd (Tryz.f191.body.getD .skip) [1, 1, 0]), (cd (Tryz.f191.body.getD .skip) [1, 1, 1])] (fun _ _ => False) (fun i => (fun _ _ => False)) (s191_R K)
theorem s191_p1_ok (K : Value → World → Prop) (s : Nat → Value) (w : World) (h : s191_p1 K w) : Tr (s191_p1_den K s w) :=
  tr_simple (P := Tryz.prog) (codes := [(cd (Tryz.f191.body.getD .skip) [1, 1, 0]), (cd (Tryz.f191.body.getD .skip) [1, 1, 1])]) (N := (fun _ _ => False)) (N' := (fun _ _ => False)) (X := (fun i => (fun _ _ => False))) (X' := (fun i => (fun _ _ => False))) (R := s191_R K) (s := s) (w := w) (p := s191_p1 K w) (q := s191_p1_den K s w) tr_id (fun i => tr_id) (by kernel_rfl) (by kernel_rfl) @h
def s191_p2 (K : Value → World → Prop) (B1 : List Value → World → Prop) (t0 t11 t12 : Value) (w : World) : Prop :=
  boI .add t12 (.int .i64 1) (fun t42 w =>
  B1 [t0, t11, t42] w) w
def s191_p2_den (K : Value → World → Prop) (M1 : (Nat → Value) → World → Prop) : (Nat → Value) → World → Prop := denL Tryz.prog [(cd (Tryz.f191.body.getD .skip) [1, 0, 1, 0, 0, 1, 1, 1])] M1 (fun i => (bif Nat.beq i 0 then (s191_p1_den K) else (fun _ _ => False))) (s191_R K)
theorem s191_p2_ok (K : Value → World → Prop) (B1 : List Value → World → Prop) (s : Nat → Value) (w : World) (h : s191_p2 K B1 (s 0) (s 11) (s 12) w) : Tr (s191_p2_den K (fun s w => B1 [s 0, s 11, s 12] w) s w) :=
  tr_simple (P := Tryz.prog) (codes := [(cd (Tryz.f191.body.getD .skip) [1, 0, 1, 0, 0, 1, 1, 1])]) (N := (fun s w => B1 [s 0, s 11, s 12] w)) (N' := (fun s w => B1 [s 0, s 11, s 12] w)) (X := (fun i => (bif Nat.beq i 0 then (fun s w => s191_p1 K w) else (fun _ _ => False)))) (X' := (fun i => (bif Nat.beq i 0 then (s191_p1_den K) else (fun _ _ => False)))) (R := s191_R K) (s := s) (w := w) (p := s191_p2 K B1 (s 0) (s 11) (s 12) w) (q := s191_p2_den K (fun s w => B1 [s 0, s 11, s 12] w) s w) tr_id (fun i => (tr_bif (fun s w h => s191_p1_ok K s w @h) tr_id)) (by kernel_rfl) (by kernel_rfl) @h
def s191_p3 (K : Value → World → Prop) (B1 : List Value → World → Prop) (B2 : List Value → World → Prop) (t0 t3 t4 t11 t12 : Value) (w : World) : Prop :=
  boI .add t4 (.int .i64 1) (fun t20 w =>
  B2 [t0, t3, t20, t11, t12] w) w
def s191_p3_den (K : Value → World → Prop) (M1 : (Nat → Value) → World → Prop) (M2 : (Nat → Value) → World → Prop) : (Nat → Value) → World → Prop := denL Tryz.prog [(cd (Tryz.f191.body.getD .skip) [1, 0, 1, 0, 0, 1, 1, 0, 0, 1, 1, 0, 0, 1, 1])] M2 (fun i => (bif Nat.beq i 2 then (s191_p2_den K M1) else (bif Nat.beq i 1 then (s191_p2_den K M1) else (bif Nat.beq i 0 then (s191_p1_den K) else (fun _ _ => False))))) (s191_R K)
theorem s191_p3_ok (K : Value → World → Prop) (B1 : List Value → World → Prop) (B2 : List Value → World → Prop) (s : Nat → Value) (w : World) (h : s191_p3 K B1 B2 (s 0) (s 3) (s 4) (s 11) (s 12) w) : Tr (s191_p3_den K (fun s w => B1 [s 0, s 11, s 12] w) (fun s w => B2 [s 0, s 3, s 4, s 11, s 12] w) s w) :=
  tr_simple (P := Tryz.prog) (codes := [(cd (Tryz.f191.body.getD .skip) [1, 0, 1, 0, 0, 1, 1, 0, 0, 1, 1, 0, 0, 1, 1])]) (N := (fun s w => B2 [s 0, s 3, s 4, s 11, s 12] w)) (N' := (fun s w => B2 [s 0, s 3, s 4, s 11, s 12] w)) (X := (fun i => (bif Nat.beq i 2 then (fun s w => s191_p2 K B1 (s 0) (s 11) (s 12) w) else (bif Nat.beq i 1 then (fun s w => s191_p2 K B1 (s 0) (s 11) (s 12) w) else (bif Nat.beq i 0 then (fun s w => s191_p1 K w) else (fun _ _ => False)))))) (X' := (fun i => (bif Nat.beq i 2 then (s191_p2_den K (fun s w => B1 [s 0, s 11, s 12] w)) else (bif Nat.beq i 1 then (s191_p2_den K (fun s w => B1 [s 0, s 11, s 12] w)) else (bif Nat.beq i 0 then (s191_p1_den K) else (fun _ _ => False)))))) (R := s191_R K) (s := s) (w := w) (p := s191_p3 K B1 B2 (s 0) (s 3) (s 4) (s 11) (s 12) w) (q := s191_p3_den K (fun s w => B1 [s 0, s 11, s 12] w) (fun s w => B2 [s 0, s 3, s 4, s 11, s 12] w) s w) tr_id (fun i => (tr_bif (fun s w h => s191_p2_ok K B1 s w @h) (tr_bif (fun s w h => s191_p2_ok K B1 s w @h) (tr_bif (fun s w h => s191_p1_ok K s w @h) tr_id)))) (by kernel_rfl) (by kernel_rfl) @h
def s191_p4 (K : Value → World → Prop) (B1 : List Value → World → Prop) (B2 : List Value → World → Prop) (B3 : List Value → World → Prop) (t0 t3 t4 t5 t11 t12 : Value) (w : World) : Prop :=
  boI .add t5 (.int .i64 1) (fun t24 w =>
  B3 [t0, t3, t4, t24, t11, t12] w) w
def s191_p4_den (K : Value → World → Prop) (M1 : (Nat → Value) → World → Prop) (M2 : (Nat → Value) → World → Prop) (M3 : (Nat → Value) → World → Prop) : (Nat → Value) → World → Prop := denL Tryz.prog [(cd (Tryz.f191.body.getD .skip) [1, 0, 1, 0, 0, 1, 1, 0, 0, 1, 1, 0, 0, 1, 0, 0, 1, 0, 0, 1, 1])] M3 (fun i => (bif Nat.beq i 4 then (s191_p3_den K M1 M2) else (bif Nat.beq i 3 then (s191_p3_den K M1 M2) else (bif Nat.beq i 2 then (s191_p2_den K M1) else (bif Nat.beq i 1 then (s191_p2_den K M1) else (bif Nat.beq i 0 then (s191_p1_den K) else (fun _ _ => False))))))) (s191_R K)
theorem s191_p4_ok (K : Value → World → Prop) (B1 : List Value → World → Prop) (B2 : List Value → World → Prop) (B3 : List Value → World → Prop) (s : Nat → Value) (w : World) (h : s191_p4 K B1 B2 B3 (s 0) (s 3) (s 4) (s 5) (s 11) (s 12) w) : Tr (s191_p4_den K (fun s w => B1 [s 0, s 11, s 12] w) (fun s w => B2 [s 0, s 3, s 4, s 11, s 12] w) (fun s w => B3 [s 0, s 3, s 4, s 5, s 11, s 12] w) s w) :=
  tr_simple (P := Tryz.prog) (codes := [(cd (Tryz.f191.body.getD .skip) [1, 0, 1, 0, 0, 1, 1, 0, 0, 1, 1, 0, 0, 1, 0, 0, 1, 0, 0, 1, 1])]) (N := (fun s w => B3 [s 0, s 3, s 4, s 5, s 11, s 12] w)) (N' := (fun s w => B3 [s 0, s 3, s 4, s 5, s 11, s 12] w)) (X := (fun i => (bif Nat.beq i 4 then (fun s w => s191_p3 K B1 B2 (s 0) (s 3) (s 4) (s 11) (s 12) w) else (bif Nat.beq i 3 then (fun s w => s191_p3 K B1 B2 (s 0) (s 3) (s 4) (s 11) (s 12) w) else (bif Nat.beq i 2 then (fun s w => s191_p2 K B1 (s 0) (s 11) (s 12) w) else (bif Nat.beq i 1 then (fun s w => s191_p2 K B1 (s 0) (s 11) (s 12) w) else (bif Nat.beq i 0 then (fun s w => s191_p1 K w) else (fun _ _ => False)))))))) (X' := (fun i => (bif Nat.beq i 4 then (s191_p3_den K (fun s w => B1 [s 0, s 11, s 12] w) (fun s w => B2 [s 0, s 3, s 4, s 11, s 12] w)) else (bif Nat.beq i 3 then (s191_p3_den K (fun s w => B1 [s 0, s 11, s 12] w) (fun s w => B2 [s 0, s 3, s 4, s 11, s 12] w)) else (bif Nat.beq i 2 then (s191_p2_den K (fun s w => B1 [s 0, s 11, s 12] w)) else (bif Nat.beq i 1 then (s191_p2_den K (fun s w => B1 [s 0, s 11, s 12] w)) else (bif Nat.beq i 0 then (s191_p1_den K) else (fun _ _ => False)))))))) (R := s191_R K) (s := s) (w := w) (p := s191_p4 K B1 B2 B3 (s 0) (s 3) (s 4) (s 5) (s 11) (s 12) w) (q := s191_p4_den K (fun s w => B1 [s 0, s 11, s 12] w) (fun s w => B2 [s 0, s 3, s 4, s 11, s 12] w) (fun s w => B3 [s 0, s 3, s 4, s 5, s 11, s 12] w) s w) tr_id (fun i => (tr_bif (fun s w h => s191_p3_ok K B1 B2 s w @h) (tr_bif (fun s w h => s191_p3_ok K B1 B2 s w @h) (tr_bif (fun s w h => s191_p2_ok K B1 s w @h) (tr_bif (fun s w h => s191_p2_ok K B1 s w @h) (tr_bif (fun s w h => s191_p1_ok K s w @h) tr_id)))))) (by kernel_rfl) (by kernel_rfl) @h
def s191_p5 (K : Value → World → Prop) (B1 : List Value → World → Prop) (B2 : List Value → World → Prop) (B3 : List Value → World → Prop) (t0 t3 t4 t5 t11 t12 t41 : Value) (w : World) : Prop :=
  ifb t41
  (K (.bool false) w)
  (s191_p4 K B1 B2 B3 t0 t3 t4 t5 t11 t12 w)
def s191_p5_den (K : Value → World → Prop) (M1 : (Nat → Value) → World → Prop) (M2 : (Nat → Value) → World → Prop) (M3 : (Nat → Value) → World → Prop) : (Nat → Value) → World → Prop := denL Tryz.prog [(cd (Tryz.f191.body.getD .skip) [1, 0, 1, 0, 0, 1, 1, 0, 0, 1, 1, 0, 0, 1, 0, 0, 1, 0, 0, 1, 0, 0, 1])] (s191_p4_den K M1 M2 M3) (fun i => (bif Nat.beq i 5 then (s191_p4_den K M1 M2 M3) else (bif Nat.beq i 4 then (s191_p3_den K M1 M2) else (bif Nat.beq i 3 then (s191_p3_den K M1 M2) else (bif Nat.beq i 2 then (s191_p2_den K M1) else (bif Nat.beq i 1 then (s191_p2_den K M1) else (bif Nat.beq i 0 then (s191_p1_den K) else (fun _ _ => False)))))))) (s191_R K)
theorem s191_p5_ok (K : Value → World → Prop) (B1 : List Value → World → Prop) (B2 : List Value → World → Prop) (B3 : List Value → World → Prop) (s : Nat → Value) (w : World) (h : s191_p5 K B1 B2 B3 (s 0) (s 3) (s 4) (s 5) (s 11) (s 12) (s 41) w) : Tr (s191_p5_den K (fun s w => B1 [s 0, s 11, s 12] w) (fun s w => B2 [s 0, s 3, s 4, s 11, s 12] w) (fun s w => B3 [s 0, s 3, s 4, s 5, s 11, s 12] w) s w) :=
  tr_simple (P := Tryz.prog) (codes := [(cd (Tryz.f191.body.getD .skip) [1, 0, 1, 0, 0, 1, 1, 0, 0, 1, 1, 0, 0, 1, 0, 0, 1, 0, 0, 1, 0, 0, 1])]) (N := (fun s w => s191_p4 K B1 B2 B3 (s 0) (s 3) (s 4) (s 5) (s 11) (s 12) w)) (N' := (s191_p4_den K (fun s w => B1 [s 0, s 11, s 12] w) (fun s w => B2 [s 0, s 3, s 4, s 11, s 12] w) (fun s w => B3 [s 0, s 3, s 4, s 5, s 11, s 12] w))) (X := (fun i => (bif Nat.beq i 5 then (fun s w => s191_p4 K B1 B2 B3 (s 0) (s 3) (s 4) (s 5) (s 11) (s 12) w) else (bif Nat.beq i 4 then (fun s w => s191_p3 K B1 B2 (s 0) (s 3) (s 4) (s 11) (s 12) w) else (bif Nat.beq i 3 then (fun s w => s191_p3 K B1 B2 (s 0) (s 3) (s 4) (s 11) (s 12) w) else (bif Nat.beq i 2 then (fun s w => s191_p2 K B1 (s 0) (s 11) (s 12) w) else (bif Nat.beq i 1 then (fun s w => s191_p2 K B1 (s 0) (s 11) (s 12) w) else (bif Nat.beq i 0 then (fun s w => s191_p1 K w) else (fun _ _ => False))))))))) (X' := (fun i => (bif Nat.beq i 5 then (s191_p4_den K (fun s w => B1 [s 0, s 11, s 12] w) (fun s w => B2 [s 0, s 3, s 4, s 11, s 12] w) (fun s w => B3 [s 0, s 3, s 4, s 5, s 11, s 12] w)) else (bif Nat.beq i 4 then (s191_p3_den K (fun s w => B1 [s 0, s 11, s 12] w) (fun s w => B2 [s 0, s 3, s 4, s 11, s 12] w)) else (bif Nat.beq i 3 then (s191_p3_den K (fun s w => B1 [s 0, s 11, s 12] w) (fun s w => B2 [s 0, s 3, s 4, s 11, s 12] w)) else (bif Nat.beq i 2 then (s191_p2_den K (fun s w => B1 [s 0, s 11, s 12] w)) else (bif Nat.beq i 1 then (s191_p2_den K (fun s w => B1 [s 0, s 11, s 12] w)) else (bif Nat.beq i 0 then (s191_p1_den K) else (fun _ _ => False))))))))) (R := s191_R K) (s := s) (w := w) (p := s191_p5 K B1 B2 B3 (s 0) (s 3) (s 4) (s 5) (s 11) (s 12) (s 41) w) (q := s191_p5_den K (fun s w => B1 [s 0, s 11, s 12] w) (fun s w => B2 [s 0, s 3, s 4, s 11, s 12] w) (fun s w => B3 [s 0, s 3, s 4, s 5, s 11, s 12] w) s w) (fun s w h => s191_p4_ok K B1 B2 B3 s w @h) (fun i => (tr_bif (fun s w h => s191_p4_ok K B1 B2 B3 s w @h) (tr_bif (fun s w h => s191_p3_ok K B1 B2 s w @h) (tr_bif (fun s w h => s191_p3_ok K B1 B2 s w @h) (tr_bif (fun s w h => s191_p2_ok K B1 s w @h) (tr_bif (fun s w h => s191_p2_ok K B1 s w @h) (tr_bif (fun s w h => s191_p1_ok K s w @h) tr_id))))))) (by kernel_rfl) (by kernel_rfl) @h
def s191_p6_d (K : Value → World → Prop) (B1 : List Value → World → Prop) (B2 : List Value → World → Prop) (B3 : List Value → World → Prop) (t0 t3 t4 t5 t11 t12 : Value) (w0 w : World) : Prop :=
  nck t0 (fun t31 _ =>
  fd 0 t31 (fun t32 _ =>
  fd 0 t32 (fun t33 _ =>
  ld1 t33 (fun t34 _ =>
  ixs 5 t34 t3 (fun t37 _ =>
  fd 2 t37 (fun t38 _ =>
  ixa 3 1 t38 t5 (fun t39 _ =>
  ld1 t39 (fun t40 _ =>
  cl Tryz.prog 156 #[t0, t3, t4, t5] (fun t29 w =>
  Below w0.heap.size w0 w ∧
  boI .gtr t29 t40 (fun t41 w =>
  s191_p5 K B1 B2 B3 t0 t3 t4 t5 t11 t12 t41 w) w) w) w0) w0) w0) w0) w0) w0) w0) w0
def s191_p6 (K : Value → World → Prop) (B1 : List Value → World → Prop) (B2 : List Value → World → Prop) (B3 : List Value → World → Prop) (t0 t3 t4 t5 t11 t12 : Value) (w : World) : Prop := s191_p6_d K B1 B2 B3 t0 t3 t4 t5 t11 t12 (drw w) (drw w)
def s191_p6_den (K : Value → World → Prop) (M1 : (Nat → Value) → World → Prop) (M2 : (Nat → Value) → World → Prop) (M3 : (Nat → Value) → World → Prop) : (Nat → Value) → World → Prop := denL Tryz.prog [(cd (Tryz.f191.body.getD .skip) [1, 0, 1, 0, 0, 1, 1, 0, 0, 1, 1, 0, 0, 1, 0, 0, 1, 0, 0, 1, 0, 0, 0])] (s191_p5_den K M1 M2 M3) (fun i => (bif Nat.beq i 5 then (s191_p4_den K M1 M2 M3) else (bif Nat.beq i 4 then (s191_p3_den K M1 M2) else (bif Nat.beq i 3 then (s191_p3_den K M1 M2) else (bif Nat.beq i 2 then (s191_p2_den K M1) else (bif Nat.beq i 1 then (s191_p2_den K M1) else (bif Nat.beq i 0 then (s191_p1_den K) else (fun _ _ => False)))))))) (s191_R K)
theorem s191_p6_ok (K : Value → World → Prop) (B1 : List Value → World → Prop) (B2 : List Value → World → Prop) (B3 : List Value → World → Prop) (s : Nat → Value) (w : World) (h : s191_p6 K B1 B2 B3 (s 0) (s 3) (s 4) (s 5) (s 11) (s 12) w) : Tr (s191_p6_den K (fun s w => B1 [s 0, s 11, s 12] w) (fun s w => B2 [s 0, s 3, s 4, s 11, s 12] w) (fun s w => B3 [s 0, s 3, s 4, s 5, s 11, s 12] w) s w) :=
  tr_draw (P := Tryz.prog) (ops := (ro (cd (Tryz.f191.body.getD .skip) [1, 0, 1, 0, 0, 1, 1, 0, 0, 1, 1, 0, 0, 1, 0, 0, 1, 0, 0, 1, 0, 0, 0]))) (ms := [0, 0, 0, 0, 15, 0, 32, 96, 224, 480, 0, 0, 2016, 6112, 16352, 32736, 65535]) (cs := [0, 1, 2, 3, 5, 6, 7, 8, 9, 10, 11, 12, 13, 14, 15]) (N := (fun s w => s191_p5 K B1 B2 B3 (s 0) (s 3) (s 4) (s 5) (s 11) (s 12) (s 41) w)) (N' := (s191_p5_den K (fun s w => B1 [s 0, s 11, s 12] w) (fun s w => B2 [s 0, s 3, s 4, s 11, s 12] w) (fun s w => B3 [s 0, s 3, s 4, s 5, s 11, s 12] w))) (s := s) (w := w) (p := s191_p6 K B1 B2 B3 (s 0) (s 3) (s 4) (s 5) (s 11) (s 12) w) (q := s191_p6_den K (fun s w => B1 [s 0, s 11, s 12] w) (fun s w => B2 [s 0, s 3, s 4, s 11, s 12] w) (fun s w => B3 [s 0, s 3, s 4, s 5, s 11, s 12] w) s w) (by kernel_rfl) (by kernel_rfl) (fun s w h => s191_p5_ok K B1 B2 B3 s w @h) (by kernel_rfl) (by kernel_rfl) @h
def s191_p7 (K : Value → World → Prop) (B1 : List Value → World → Prop) (B2 : List Value → World → Prop) (B3 : List Value → World → Prop) (t0 t3 t4 t5 t11 t12 : Value) (w : World) : Prop :=
  boI .lss t5 (.int .i64 3) (fun t22 w =>
  ifb t22
  (s191_p6 K B1 B2 B3 t0 t3 t4 t5 t11 t12 w)
  (s191_p3 K B1 B2 t0 t3 t4 t11 t12 w)) w
def s191_p7_den (K : Value → World → Prop) (M1 : (Nat → Value) → World → Prop) (M2 : (Nat → Value) → World → Prop) (M3 : (Nat → Value) → World → Prop) : (Nat → Value) → World → Prop := denL Tryz.prog [(cd (Tryz.f191.body.getD .skip) [1, 0, 1, 0, 0, 1, 1, 0, 0, 1, 1, 0, 0, 1, 0, 0, 1, 0, 0, 0, 0]), (cd (Tryz.f191.body.getD .skip) [1, 0, 1, 0, 0, 1, 1, 0, 0, 1, 1, 0, 0, 1, 0, 0, 1, 0, 0, 0, 1])] (s191_p6_den K M1 M2 M3) (fun i => (bif Nat.beq i 4 then (s191_p3_den K M1 M2) else (bif Nat.beq i 3 then (s191_p3_den K M1 M2) else (bif Nat.beq i 2 then (s191_p2_den K M1) else (bif Nat.beq i 1 then (s191_p2_den K M1) else (bif Nat.beq i 0 then (s191_p1_den K) else (fun _ _ => False))))))) (s191_R K)
theorem s191_p7_ok (K : Value → World → Prop) (B1 : List Value → World → Prop) (B2 : List Value → World → Prop) (B3 : List Value → World → Prop) (s : Nat → Value) (w : World) (h : s191_p7 K B1 B2 B3 (s 0) (s 3) (s 4) (s 5) (s 11) (s 12) w) : Tr (s191_p7_den K (fun s w => B1 [s 0, s 11, s 12] w) (fun s w => B2 [s 0, s 3, s 4, s 11, s 12] w) (fun s w => B3 [s 0, s 3, s 4, s 5, s 11, s 12] w) s w) :=
  tr_simple (P := Tryz.prog) (codes := [(cd (Tryz.f191.body.getD .skip) [1, 0, 1, 0, 0, 1, 1, 0, 0, 1, 1, 0, 0, 1, 0, 0, 1, 0, 0, 0, 0]), (cd (Tryz.f191.body.getD .skip) [1, 0, 1, 0, 0, 1, 1, 0, 0, 1, 1, 0, 0, 1, 0, 0, 1, 0, 0, 0, 1])]) (N := (fun s w => s191_p6 K B1 B2 B3 (s 0) (s 3) (s 4) (s 5) (s 11) (s 12) w)) (N' := (s191_p6_den K (fun s w => B1 [s 0, s 11, s 12] w) (fun s w => B2 [s 0, s 3, s 4, s 11, s 12] w) (fun s w => B3 [s 0, s 3, s 4, s 5, s 11, s 12] w))) (X := (fun i => (bif Nat.beq i 4 then (fun s w => s191_p3 K B1 B2 (s 0) (s 3) (s 4) (s 11) (s 12) w) else (bif Nat.beq i 3 then (fun s w => s191_p3 K B1 B2 (s 0) (s 3) (s 4) (s 11) (s 12) w) else (bif Nat.beq i 2 then (fun s w => s191_p2 K B1 (s 0) (s 11) (s 12) w) else (bif Nat.beq i 1 then (fun s w => s191_p2 K B1 (s 0) (s 11) (s 12) w) else (bif Nat.beq i 0 then (fun s w => s191_p1 K w) else (fun _ _ => False)))))))) (X' := (fun i => (bif Nat.beq i 4 then (s191_p3_den K (fun s w => B1 [s 0, s 11, s 12] w) (fun s w => B2 [s 0, s 3, s 4, s 11, s 12] w)) else (bif Nat.beq i 3 then (s191_p3_den K (fun s w => B1 [s 0, s 11, s 12] w) (fun s w => B2 [s 0, s 3, s 4, s 11, s 12] w)) else (bif Nat.beq i 2 then (s191_p2_den K (fun s w => B1 [s 0, s 11, s 12] w)) else (bif Nat.beq i 1 then (s191_p2_den K (fun s w => B1 [s 0, s 11, s 12] w)) else (bif Nat.beq i 0 then (s191_p1_den K) else (fun _ _ => False)))))))) (R := s191_R K) (s := s) (w := w) (p := s191_p7 K B1 B2 B3 (s 0) (s 3) (s 4) (s 5) (s 11) (s 12) w) (q := s191_p7_den K (fun s w => B1 [s 0, s 11, s 12] w) (fun s w => B2 [s 0, s 3, s 4, s 11, s 12] w) (fun s w => B3 [s 0, s 3, s 4, s 5, s 11, s 12] w) s w) (fun s w h => s191_p6_ok K B1 B2 B3 s w @h) (fun i => (tr_bif (fun s w h => s191_p3_ok K B1 B2 s w @h) (tr_bif (fun s w h => s191_p3_ok K B1 B2 s w @h) (tr_bif (fun s w h => s191_p2_ok K B1 s w @h) (tr_bif (fun s w h => s191_p2_ok K B1 s w @h) (tr_bif (fun s w h => s191_p1_ok K s w @h) tr_id)))))) (by kernel_rfl) (by kernel_rfl) @h
def s191_p8_F (K : Value → World → Prop) (B1 : List Value → World → Prop) (B2 : List Value → World → Prop) (B3 : List Value → World → Prop) (l : List Value) (w : World) : Prop :=
  match l with
  | [t0, t3, t4, t5, t11, t12] => s191_p7 K B1 B2 B3 t0 t3 t4 t5 t11 t12 w
  | _ => False
theorem s191_p8_Fe {K : Value → World → Prop} {B1 : List Value → World → Prop} {B2 : List Value → World → Prop} {B3 : List Value → World → Prop} {t0 t3 t4 t5 t11 t12 : Value} {w : World} : s191_p8_F K B1 B2 B3 [t0, t3, t4, t5, t11, t12] w = s191_p7 K B1 B2 B3 t0 t3 t4 t5 t11 t12 w := by kernel_rfl
def s191_p8 (K : Value → World → Prop) (B1 : List Value → World → Prop) (B2 : List Value → World → Prop) (t0 t3 t4 t5 t11 t12 : Value) (w : World) : Prop :=
  LoopL (s191_p8_F K B1 B2) [t0, t3, t4, t5, t11, t12] w
def s191_p8_den (K : Value → World → Prop) (M1 : (Nat → Value) → World → Prop) (M2 : (Nat → Value) → World → Prop) : (Nat → Value) → World → Prop := fun s w => LoopP (fun M3 s w => s191_p7_den K M1 M2 M3 s w) s w
theorem s191_p8_ok (K : Value → World → Prop) (B1 : List Value → World → Prop) (B2 : List Value → World → Prop) (s : Nat → Value) (w : World) (h : s191_p8 K B1 B2 (s 0) (s 3) (s 4) (s 5) (s 11) (s 12) w) : Tr (s191_p8_den K (fun s w => B1 [s 0, s 11, s 12] w) (fun s w => B2 [s 0, s 3, s 4, s 11, s 12] w) s w) :=
  tr_loop (G := fun N' s w => s191_p7_den K (fun s w => B1 [s 0, s 11, s 12] w) (fun s w => B2 [s 0, s 3, s 4, s 11, s 12] w) N' s w) (F := s191_p8_F K B1 B2) (sel := fun s => [s 0, s 3, s 4, s 5, s 11, s 12]) (s := s) (w := w) (p := s191_p8 K B1 B2 (s 0) (s 3) (s 4) (s 5) (s 11) (s 12) w) (q := s191_p8_den K (fun s w => B1 [s 0, s 11, s 12] w) (fun s w => B2 [s 0, s 3, s 4, s 11, s 12] w) s w) (fun B s w h => s191_p7_ok K B1 B2 B s w @h) (by kernel_rfl) (by kernel_rfl) @h
def s191_p9 (K : Value → World → Prop) (B1 : List Value → World → Prop) (B2 : List Value → World → Prop) (t0 t3 t4 t11 t12 : Value) (w : World) : Prop :=
  s191_p8 K B1 B2 t0 t3 t4 (.int .i64 0) t11 t12 w
def s191_p9_den (K : Value → World → Prop) (M1 : (Nat → Value) → World → Prop) (M2 : (Nat → Value) → World → Prop) : (Nat → Value) → World → Prop := denL Tryz.prog [(cd (Tryz.f191.body.getD .skip) [1, 0, 1, 0, 0, 1, 1, 0, 0, 1, 1, 0, 0, 1, 0, 0, 0])] (s191_p8_den K M1 M2) (fun i => (bif Nat.beq i 3 then (s191_p3_den K M1 M2) else (bif Nat.beq i 2 then (s191_p2_den K M1) else (bif Nat.beq i 1 then (s191_p2_den K M1) else (bif Nat.beq i 0 then (s191_p1_den K) else (fun _ _ => False)))))) (s191_R K)
theorem s191_p9_ok (K : Value → World → Prop) (B1 : List Value → World → Prop) (B2 : List Value → World → Prop) (s : Nat → Value) (w : World) (h : s191_p9 K B1 B2 (s 0) (s 3) (s 4) (s 11) (s 12) w) : Tr (s191_p9_den K (fun s w => B1 [s 0, s 11, s 12] w) (fun s w => B2 [s 0, s 3, s 4, s 11, s 12] w) s w) :=
  tr_simple (P := Tryz.prog) (codes := [(cd (Tryz.f191.body.getD .skip) [1, 0, 1, 0, 0, 1, 1, 0, 0, 1, 1, 0, 0, 1, 0, 0, 0])]) (N := (fun s w => s191_p8 K B1 B2 (s 0) (s 3) (s 4) (s 5) (s 11) (s 12) w)) (N' := (s191_p8_den K (fun s w => B1 [s 0, s 11, s 12] w) (fun s w => B2 [s 0, s 3, s 4, s 11, s 12] w))) (X := (fun i => (bif Nat.beq i 3 then (fun s w => s191_p3 K B1 B2 (s 0) (s 3) (s 4) (s 11) (s 12) w) else (bif Nat.beq i 2 then (fun s w => s191_p2 K B1 (s 0) (s 11) (s 12) w) else (bif Nat.beq i 1 then (fun s w => s191_p2 K B1 (s 0) (s 11) (s 12) w) else (bif Nat.beq i 0 then (fun s w => s191_p1 K w) else (fun _ _ => False))))))) (X' := (fun i => (bif Nat.beq i 3 then (s191_p3_den K (fun s w => B1 [s 0, s 11, s 12] w) (fun s w => B2 [s 0, s 3, s 4, s 11, s 12] w)) else (bif Nat.beq i 2 then (s191_p2_den K (fun s w => B1 [s 0, s 11, s 12] w)) else (bif Nat.beq i 1 then (s191_p2_den K (fun s w => B1 [s 0, s 11, s 12] w)) else (bif Nat.beq i 0 then (s191_p1_den K) else (fun _ _ => False))))))) (R := s191_R K) (s := s) (w := w) (p := s191_p9 K B1 B2 (s 0) (s 3) (s 4) (s 11) (s 12) w) (q := s191_p9_den K (fun s w => B1 [s 0, s 11, s 12] w) (fun s w => B2 [s 0, s 3, s 4, s 11, s 12] w) s w) (fun s w h => s191_p8_ok K B1 B2 s w @h) (fun i => (tr_bif (fun s w h => s191_p3_ok K B1 B2 s w @h) (tr_bif (fun s w h => s191_p2_ok K B1 s w @h) (tr_bif (fun s w h => s191_p2_ok K B1 s w @h) (tr_bif (fun s w h => s191_p1_ok K s w @h) tr_id))))) (by kernel_rfl) (by kernel_rfl) @h
def s191_p10 (K : Value → World → Prop) (B1 : List Value → World → Prop) (B2 : List Value → World → Prop) (t0 t3 t4 t11 t12 : Value) (w : World) : Prop :=
  cl Tryz.prog 227 #[t0] (fun t17 w =>
  boI .leq t4 t17 (fun t18 w =>
  ifb t18
  (s191_p9 K B1 B2 t0 t3 t4 t11 t12 w)
  (s191_p2 K B1 t0 t11 t12 w)) w) w
def s191_p10_den (K : Value → World → Prop) (M1 : (Nat → Value) → World → Prop) (M2 : (Nat → Value) → World → Prop) : (Nat → Value) → World → Prop := denL Tryz.prog [(cd (Tryz.f191.body.getD .skip) [1, 0, 1, 0, 0, 1, 1, 0, 0, 1, 1, 0, 0, 0, 0]), (cd (Tryz.f191.body.getD .skip) [1, 0, 1, 0, 0, 1, 1, 0, 0, 1, 1, 0, 0, 0, 1])] (s191_p9_den K M1 M2) (fun i => (bif Nat.beq i 2 then (s191_p2_den K M1) else (bif Nat.beq i 1 then (s191_p2_den K M1) else (bif Nat.beq i 0 then (s191_p1_den K) else (fun _ _ => False))))) (s191_R K)
theorem s191_p10_ok (K : Value → World → Prop) (B1 : List Value → World → Prop) (B2 : List Value → World → Prop) (s : Nat → Value) (w : World) (h : s191_p10 K B1 B2 (s 0) (s 3) (s 4) (s 11) (s 12) w) : Tr (s191_p10_den K (fun s w => B1 [s 0, s 11, s 12] w) (fun s w => B2 [s 0, s 3, s 4, s 11, s 12] w) s w) :=
  tr_simple (P := Tryz.prog) (codes := [(cd (Tryz.f191.body.getD .skip) [1, 0, 1, 0, 0, 1, 1, 0, 0, 1, 1, 0, 0, 0, 0]), (cd (Tryz.f191.body.getD .skip) [1, 0, 1, 0, 0, 1, 1, 0, 0, 1, 1, 0, 0, 0, 1])]) (N := (fun s w => s191_p9 K B1 B2 (s 0) (s 3) (s 4) (s 11) (s 12) w)) (N' := (s191_p9_den K (fun s w => B1 [s 0, s 11, s 12] w) (fun s w => B2 [s 0, s 3, s 4, s 11, s 12] w))) (X := (fun i => (bif Nat.beq i 2 then (fun s w => s191_p2 K B1 (s 0) (s 11) (s 12) w) else (bif Nat.beq i 1 then (fun s w => s191_p2 K B1 (s 0) (s 11) (s 12) w) else (bif Nat.beq i 0 then (fun s w => s191_p1 K w) else (fun _ _ => False)))))) (X' := (fun i => (bif Nat.beq i 2 then (s191_p2_den K (fun s w => B1 [s 0, s 11, s 12] w)) else (bif Nat.beq i 1 then (s191_p2_den K (fun s w => B1 [s 0, s 11, s 12] w)) else (bif Nat.beq i 0 then (s191_p1_den K) else (fun _ _ => False)))))) (R := s191_R K) (s := s) (w := w) (p := s191_p10 K B1 B2 (s 0) (s 3) (s 4) (s 11) (s 12) w) (q := s191_p10_den K (fun s w => B1 [s 0, s 11, s 12] w) (fun s w => B2 [s 0, s 3, s 4, s 11, s 12] w) s w) (fun s w h => s191_p9_ok K B1 B2 s w @h) (fun i => (tr_bif (fun s w h => s191_p2_ok K B1 s w @h) (tr_bif (fun s w h => s191_p2_ok K B1 s w @h) (tr_bif (fun s w h => s191_p1_ok K s w @h) tr_id)))) (by kernel_rfl) (by kernel_rfl) @h
def s191_p11_F (K : Value → World → Prop) (B1 : List Value → World → Prop) (B2 : List Value → World → Prop) (l : List Value) (w : World) : Prop :=
  match l with
  | [t0, t3, t4, t11, t12] => s191_p10 K B1 B2 t0 t3 t4 t11 t12 w
  | _ => False
theorem s191_p11_Fe {K : Value → World → Prop} {B1 : List Value → World → Prop} {B2 : List Value → World → Prop} {t0 t3 t4 t11 t12 : Value} {w : World} : s191_p11_F K B1 B2 [t0, t3, t4, t11, t12] w = s191_p10 K B1 B2 t0 t3 t4 t11 t12 w := by kernel_rfl
def s191_p11 (K : Value → World → Prop) (B1 : List Value → World → Prop) (t0 t3 t4 t11 t12 : Value) (w : World) : Prop :=
  LoopL (s191_p11_F K B1) [t0, t3, t4, t11, t12] w
def s191_p11_den (K : Value → World → Prop) (M1 : (Nat → Value) → World → Prop) : (Nat → Value) → World → Prop := fun s w => LoopP (fun M2 s w => s191_p10_den K M1 M2 s w) s w
theorem s191_p11_ok (K : Value → World → Prop) (B1 : List Value → World → Prop) (s : Nat → Value) (w : World) (h : s191_p11 K B1 (s 0) (s 3) (s 4) (s 11) (s 12) w) : Tr (s191_p11_den K (fun s w => B1 [s 0, s 11, s 12] w) s w) :=
  tr_loop (G := fun N' s w => s191_p10_den K (fun s w => B1 [s 0, s 11, s 12] w) N' s w) (F := s191_p11_F K B1) (sel := fun s => [s 0, s 3, s 4, s 11, s 12]) (s := s) (w := w) (p := s191_p11 K B1 (s 0) (s 3) (s 4) (s 11) (s 12) w) (q := s191_p11_den K (fun s w => B1 [s 0, s 11, s 12] w) s w) (fun B s w h => s191_p10_ok K B1 B s w @h) (by kernel_rfl) (by kernel_rfl) @h
def s191_p12 (K : Value → World → Prop) (B1 : List Value → World → Prop) (t0 t11 t12 : Value) (w : World) : Prop :=
  s191_p11 K B1 t0 t12 (.int .i64 0) t11 t12 w
def s191_p12_den (K : Value → World → Prop) (M1 : (Nat → Value) → World → Prop) : (Nat → Value) → World → Prop := denL Tryz.prog [(cd (Tryz.f191.body.getD .skip) [1, 0, 1, 0, 0, 1, 1, 0, 0, 0]), (cd (Tryz.f191.body.getD .skip) [1, 0, 1, 0, 0, 1, 1, 0, 0, 1, 0])] (s191_p11_den K M1) (fun i => (bif Nat.beq i 1 then (s191_p2_den K M1) else (bif Nat.beq i 0 then (s191_p1_den K) else (fun _ _ => False)))) (s191_R K)
theorem s191_p12_ok (K : Value → World → Prop) (B1 : List Value → World → Prop) (s : Nat → Value) (w : World) (h : s191_p12 K B1 (s 0) (s 11) (s 12) w) : Tr (s191_p12_den K (fun s w => B1 [s 0, s 11, s 12] w) s w) :=
  tr_simple (P := Tryz.prog) (codes := [(cd (Tryz.f191.body.getD .skip) [1, 0, 1, 0, 0, 1, 1, 0, 0, 0]), (cd (Tryz.f191.body.getD .skip) [1, 0, 1, 0, 0, 1, 1, 0, 0, 1, 0])]) (N := (fun s w => s191_p11 K B1 (s 0) (s 3) (s 4) (s 11) (s 12) w)) (N' := (s191_p11_den K (fun s w => B1 [s 0, s 11, s 12] w))) (X := (fun i => (bif Nat.beq i 1 then (fun s w => s191_p2 K B1 (s 0) (s 11) (s 12) w) else (bif Nat.beq i 0 then (fun s w => s191_p1 K w) else (fun _ _ => False))))) (X' := (fun i => (bif Nat.beq i 1 then (s191_p2_den K (fun s w => B1 [s 0, s 11, s 12] w)) else (bif Nat.beq i 0 then (s191_p1_den K) else (fun _ _ => False))))) (R := s191_R K) (s := s) (w := w) (p := s191_p12 K B1 (s 0) (s 11) (s 12) w) (q := s191_p12_den K (fun s w => B1 [s 0, s 11, s 12] w) s w) (fun s w h => s191_p11_ok K B1 s w @h) (fun i => (tr_bif (fun s w h => s191_p2_ok K B1 s w @h) (tr_bif (fun s w h => s191_p1_ok K s w @h) tr_id))) (by kernel_rfl) (by kernel_rfl) @h
def s191_p13 (K : Value → World → Prop) (B1 : List Value → World → Prop) (t0 t11 t12 : Value) (w : World) : Prop :=
  boI .lss t12 t11 (fun t13 w =>
  ifb t13
  (s191_p12 K B1 t0 t11 t12 w)
  (s191_p1 K w)) w
def s191_p13_den (K : Value → World → Prop) (M1 : (Nat → Value) → World → Prop) : (Nat → Value) → World → Prop := denL Tryz.prog [(cd (Tryz.f191.body.getD .skip) [1, 0, 1, 0, 0, 0]), (cd (Tryz.f191.body.getD .skip) [1, 0, 1, 0, 0, 1, 0])] (s191_p12_den K M1) (fun i => (bif Nat.beq i 0 then (s191_p1_den K) else (fun _ _ => False))) (s191_R K)
theorem s191_p13_ok (K : Value → World → Prop) (B1 : List Value → World → Prop) (s : Nat → Value) (w : World) (h : s191_p13 K B1 (s 0) (s 11) (s 12) w) : Tr (s191_p13_den K (fun s w => B1 [s 0, s 11, s 12] w) s w) :=
  tr_simple (P := Tryz.prog) (codes := [(cd (Tryz.f191.body.getD .skip) [1, 0, 1, 0, 0, 0]), (cd (Tryz.f191.body.getD .skip) [1, 0, 1, 0, 0, 1, 0])]) (N := (fun s w => s191_p12 K B1 (s 0) (s 11) (s 12) w)) (N' := (s191_p12_den K (fun s w => B1 [s 0, s 11, s 12] w))) (X := (fun i => (bif Nat.beq i 0 then (fun s w => s191_p1 K w) else (fun _ _ => False)))) (X' := (fun i => (bif Nat.beq i 0 then (s191_p1_den K) else (fun _ _ => False)))) (R := s191_R K) (s := s) (w := w) (p := s191_p13 K B1 (s 0) (s 11) (s 12) w) (q := s191_p13_den K (fun s w => B1 [s 0, s 11, s 12] w) s w) (fun s w h => s191_p12_ok K B1 s w @h) (fun i => (tr_bif (fun s w h => s191_p1_ok K s w @h) tr_id)) (by kernel_rfl) (by kernel_rfl) @h
def s191_p14_F (K : Value → World → Prop) (B1 : List Value → World → Prop) (l : List Value) (w : World) : Prop :=
  match l with
  | [t0, t11, t12] => s191_p13 K B1 t0 t11 t12 w
  | _ => False
theorem s191_p14_Fe {K : Value → World → Prop} {B1 : List Value → World → Prop} {t0 t11 t12 : Value} {w : World} : s191_p14_F K B1 [t0, t11, t12] w = s191_p13 K B1 t0 t11 t12 w := by kernel_rfl
def s191_p14 (K : Value → World → Prop) (t0 t11 t12 : Value) (w : World) : Prop :=
  LoopL (s191_p14_F K) [t0, t11, t12] w
def s191_p14_den (K : Value → World → Prop) : (Nat → Value) → World → Prop := fun s w => LoopP (fun M1 s w => s191_p13_den K M1 s w) s w
theorem s191_p14_ok (K : Value → World → Prop) (s : Nat → Value) (w : World) (h : s191_p14 K (s 0) (s 11) (s 12) w) : Tr (s191_p14_den K s w) :=
  tr_loop (G := fun N' s w => s191_p13_den K N' s w) (F := s191_p14_F K) (sel := fun s => [s 0, s 11, s 12]) (s := s) (w := w) (p := s191_p14 K (s 0) (s 11) (s 12) w) (q := s191_p14_den K s w) (fun B s w h => s191_p13_ok K B s w @h) (by kernel_rfl) (by kernel_rfl) @h
def s191_p15 (K : Value → World → Prop) (t0 : Value) (w : World) : Prop :=
  nck t0 (fun t7 w =>
  fd 0 t7 (fun t8 w =>
  fd 0 t8 (fun t9 w =>
  ld1 t9 (fun t10 w =>
  lnS t10 (fun t11 w =>
  s191_p14 K t0 t11 (.int .i64 0) w) w) w) w) w) w
def s191_p15_den (K : Value → World → Prop) : (Nat → Value) → World → Prop := denL Tryz.prog [(cd (Tryz.f191.body.getD .skip) [0]), (cd (Tryz.f191.body.getD .skip) [1, 0, 0])] (s191_p14_den K) (fun i => (fun _ _ => False)) (s191_R K)
theorem s191_p15_ok (K : Value → World → Prop) (s : Nat → Value) (w : World) (h : s191_p15 K (s 0) w) : Tr (s191_p15_den K s w) :=
  tr_simple (P := Tryz.prog) (codes := [(cd (Tryz.f191.body.getD .skip) [0]), (cd (Tryz.f191.body.getD .skip) [1, 0, 0])]) (N := (fun s w => s191_p14 K (s 0) (s 11) (s 12) w)) (N' := (s191_p14_den K)) (X := (fun i => (fun _ _ => False))) (X' := (fun i => (fun _ _ => False))) (R := s191_R K) (s := s) (w := w) (p := s191_p15 K (s 0) w) (q := s191_p15_den K s w) (fun s w h => s191_p14_ok K s w @h) (fun i => tr_id) (by kernel_rfl) (by kernel_rfl) @h
/-- the call, from the text -/
theorem c191 (t0 : Value) {K : Value → World → Prop} {w : World} (h : s191_p15 K t0 w) : cl Tryz.prog 191 #[t0] K w :=
  calls_of_tr (c := (Tryz.f191.body.getD .skip)) (fn := Tryz.f191) (q := s191_p15_den K (st0 #[t0]) w) Tryz.func191 (by kernel_rfl) (by kernel_rfl) (Nat.le_of_ble_eq_true (by kernel_rfl)) (by kernel_rfl) (by kernel_rfl) (s191_p15_ok K (st0 #[t0]) w @h)

/-! ### function 192 : (*e2e.enginem.State).TransferHolds -/
def s192_R (K : Value → World → Prop) (s : Nat → Value) (w : World) : Prop := retv Tryz.prog s Tryz.f192.results.toList (fun vs => K (pack vs) w) w
def s192_p1 (K : Value → World → Prop) (w : World) : Prop :=
  K (.bool true) w
def s192_p1_den (K : Value → World → Prop) : (Nat → Value) → World → Prop := denL Tryz.prog [(cd (Tryz.f192.body.getD .skip) [1, 1, 0]), (cd (Tryz.f192.body.getD .skip) [1, 1, 1])] (fun _ _ => False) (fun i => (fun _ _ => False)) (s192_R K)
theorem s192_p1_ok (K : Value → World → Prop) (s : Nat → Value) (w : World) (h : s192_p1 K w) : Tr (s192_p1_den K s w) :=
  tr_simple (P := Tryz.prog) (codes := [(cd (Tryz.f192.body.getD .skip) [1, 1, 0]), (cd (Tryz.f192.body.getD .skip) [1, 1, 1])]) (N := (fun _ _ => False)) (N' := (fun _ _ => False)) (X := (fun i => (fun _ _ => False))) (X' := (fun i => (fun _ _ => False))) (R := s192_R K) (s := s) (w := w) (p := s192_p1 K w) (q := s192_p1_den K s w) tr_id (fun i => tr_id) (by kernel_rfl) (by kernel_rfl) @h
def s192_p2 (K : Value → World → Prop) (B1 : List Value → World → Prop) (t0 t11 t12 t13 : Value) (w : World) : Prop :=
  boI .add t13 (.int .i64 1) (fun t71 w =>
  B1 [t0, t11, t12, t71] w) w
def s192_p2_den (K : Value → World → Prop) (M1 : (Nat → Value) → World → Prop) : (Nat → Value) → World → Prop := denL Tryz.prog [(cd (Tryz.f192.body.getD .skip) [1, 0, 1, 0, 0, 1, 1, 1])] M1 (fun i => (bif Nat.beq i 0 then (s192_p1_den K) else (fun _ _ => False))) (s192_R K)
theorem s192_p2_ok (K : Value → World → Prop) (B1 : List Value → World → Prop) (s : Nat → Value) (w : World) (h : s192_p2 K B1 (s 0) (s 11) (s 12) (s 13) w) : Tr (s192_p2_den K (fun s w => B1 [s 0, s 11, s 12, s 13] w) s w) :=
  tr_simple (P := Tryz.prog) (codes := [(cd (Tryz.f192.body.getD .skip) [1, 0, 1, 0, 0, 1, 1, 1])]) (N := (fun s w => B1 [s 0, s 11, s 12, s 13] w)) (N' := (fun s w => B1 [s 0, s 11, s 12, s 13] w)) (X := (fun i => (bif Nat.beq i 0 then (fun s w => s192_p1 K w) else (fun _ _ => False)))) (X' := (fun i => (bif Nat.beq i 0 then (s192_p1_den K) else (fun _ _ => False)))) (R := s192_R K) (s := s) (w := w) (p := s192_p2 K B1 (s 0) (s 11) (s 12) (s 13) w) (q := s192_p2_den K (fun s w => B1 [s 0, s 11, s 12, s 13] w) s w) tr_id (fun i => (tr_bif (fun s w h => s192_p1_ok K s w @h) tr_id)) (by kernel_rfl) (by kernel_rfl) @h
def s192_p3 (K : Value → World → Prop) (B1 : List Value → World → Prop) (B2 : List Value → World → Prop) (t0 t4 t5 t11 t12 t13 : Value) (w : World) : Prop :=
  boI .add t5 (.int .i64 1) (fun t29 w =>
  B2 [t0, t4, t29, t11, t12, t13] w) w
def s192_p3_den (K : Value → World → Prop) (M1 : (Nat → Value) → World → Prop) (M2 : (Nat → Value) → World → Prop) : (Nat → Value) → World → Prop := denL Tryz.prog [(cd (Tryz.f192.body.getD .skip) [1, 0, 1, 0, 0, 1, 1, 0, 0, 1, 1, 0, 0, 1, 1])] M2 (fun i => (bif Nat.beq i 2 then (s192_p2_den K M1) else (bif Nat.beq i 1 then (s192_p2_den K M1) else (bif Nat.beq i 0 then (s192_p1_den K) else (fun _ _ => False))))) (s192_R K)
theorem s192_p3_ok (K : Value → World → Prop) (B1 : List Value → World → Prop) (B2 : List Value → World → Prop) (s : Nat → Value) (w : World) (h : s192_p3 K B1 B2 (s 0) (s 4) (s 5) (s 11) (s 12) (s 13) w) : Tr (s192_p3_den K (fun s w => B1 [s 0, s 11, s 12, s 13] w) (fun s w => B2 [s 0, s 4, s 5, s 11, s 12, s 13] w) s w) :=
  tr_simple (P := Tryz.prog) (codes := [(cd (Tryz.f192.body.getD .skip) [1, 0, 1, 0, 0, 1, 1, 0, 0, 1, 1, 0, 0, 1, 1])]) (N := (fun s w => B2 [s 0, s 4, s 5, s 11, s 12, s 13] w)) (N' := (fun s w => B2 [s 0, s 4, s 5, s 11, s 12, s 13] w)) (X := (fun i => (bif Nat.beq i 2 then (fun s w => s192_p2 K B1 (s 0) (s 11) (s 12) (s 13) w) else (bif Nat.beq i 1 then (fun s w => s192_p2 K B1 (s 0) (s 11) (s 12) (s 13) w) else (bif Nat.beq i 0 then (fun s w => s192_p1 K w) else (fun _ _ => False)))))) (X' := (fun i => (bif Nat.beq i 2 then (s192_p2_den K (fun s w => B1 [s 0, s 11, s 12, s 13] w)) else (bif Nat.beq i 1 then (s192_p2_den K (fun s w => B1 [s 0, s 11, s 12, s 13] w)) else (bif Nat.beq i 0 then (s192_p1_den K) else (fun _ _ => False)))))) (R := s192_R K) (s := s) (w := w) (p := s192_p3 K B1 B2 (s 0) (s 4) (s 5) (s 11) (s 12) (s 13) w) (q := s192_p3_den K (fun s w => B1 [s 0, s 11, s 12, s 13] w) (fun s w => B2 [s 0, s 4, s 5, s 11, s 12, s 13] w) s w) tr_id (fun i => (tr_bif (fun s w h => s192_p2_ok K B1 s w @h) (tr_bif (fun s w h => s192_p2_ok K B1 s w @h) (tr_bif (fun s w h => s192_p1_ok K s w @h) tr_id)))) (by kernel_rfl) (by kernel_rfl) @h
def s192_p4 (K : Value → World → Prop) (B1 : List Value → World → Prop) (B2 : List Value → World → Prop) (t0 t4 t5 t11 t12 t13 t70 : Value) (w : World) : Prop :=
  ifb t70
  (K (.bool false) w)
  (s192_p3 K B1 B2 t0 t4 t5 t11 t12 t13 w)
def s192_p4_den (K : Value → World → Prop) (M1 : (Nat → Value) → World → Prop) (M2 : (Nat → Value) → World → Prop) : (Nat → Value) → World → Prop := denL Tryz.prog [(cd (Tryz.f192.body.getD .skip) [1, 0, 1, 0, 0, 1, 1, 0, 0, 1, 1, 0, 0, 1, 0, 0, 1, 1])] (s192_p3_den K M1 M2) (fun i => (bif Nat.beq i 3 then (s192_p3_den K M1 M2) else (bif Nat.beq i 2 then (s192_p2_den K M1) else (bif Nat.beq i 1 then (s192_p2_den K M1) else (bif Nat.beq i 0 then (s192_p1_den K) else (fun _ _ => False)))))) (s192_R K)
theorem s192_p4_ok (K : Value → World → Prop) (B1 : List Value → World → Prop) (B2 : List Value → World → Prop) (s : Nat → Value) (w : World) (h : s192_p4 K B1 B2 (s 0) (s 4) (s 5) (s 11) (s 12) (s 13) (s 70) w) : Tr (s192_p4_den K (fun s w => B1 [s 0, s 11, s 12, s 13] w) (fun s w => B2 [s 0, s 4, s 5, s 11, s 12, s 13] w) s w) :=
  tr_simple (P := Tryz.prog) (codes := [(cd (Tryz.f192.body.getD .skip) [1, 0, 1, 0, 0, 1, 1, 0, 0, 1, 1, 0, 0, 1, 0, 0, 1, 1])]) (N := (fun s w => s192_p3 K B1 B2 (s 0) (s 4) (s 5) (s 11) (s 12) (s 13) w)) (N' := (s192_p3_den K (fun s w => B1 [s 0, s 11, s 12, s 13] w) (fun s w => B2 [s 0, s 4, s 5, s 11, s 12, s 13] w))) (X := (fun i => (bif Nat.beq i 3 then (fun s w => s192_p3 K B1 B2 (s 0) (s 4) (s 5) (s 11) (s 12) (s 13) w) else (bif Nat.beq i 2 then (fun s w => s192_p2 K B1 (s 0) (s 11) (s 12) (s 13) w) else (bif Nat.beq i 1 then (fun s w => s192_p2 K B1 (s 0) (s 11) (s 12) (s 13) w) else (bif Nat.beq i 0 then (fun s w => s192_p1 K w) else (fun _ _ => False))))))) (X' := (fun i => (bif Nat.beq i 3 then (s192_p3_den K (fun s w => B1 [s 0, s 11, s 12, s 13] w) (fun s w => B2 [s 0, s 4, s 5, s 11, s 12, s 13] w)) else (bif Nat.beq i 2 then (s192_p2_den K (fun s w => B1 [s 0, s 11, s 12, s 13] w)) else (bif Nat.beq i 1 then (s192_p2_den K (fun s w => B1 [s 0, s 11, s 12, s 13] w)) else (bif Nat.beq i 0 then (s192_p1_den K) else (fun _ _ => False))))))) (R := s192_R K) (s := s) (w := w) (p := s192_p4 K B1 B2 (s 0) (s 4) (s 5) (s 11) (s 12) (s 13) (s 70) w) (q := s192_p4_den K (fun s w => B1 [s 0, s 11, s 12, s 13] w) (fun s w => B2 [s 0, s 4, s 5, s 11, s 12, s 13] w) s w) (fun s w h => s192_p3_ok K B1 B2 s w @h) (fun i => (tr_bif (fun s w h => s192_p3_ok K B1 B2 s w @h) (tr_bif (fun s w h => s192_p2_ok K B1 s w @h) (tr_bif (fun s w h => s192_p2_ok K B1 s w @h) (tr_bif (fun s w h => s192_p1_ok K s w @h) tr_id))))) (by kernel_rfl) (by kernel_rfl) @h
def s192_p5_d (K : Value → World → Prop) (B1 : List Value → World → Prop) (B2 : List Value → World → Prop) (t0 t4 t5 t6 t7 t11 t12 t13 : Value) (w0 w : World) : Prop :=
  fd 1 t7 (fun t41 _ =>
  ld1 t41 (fun t42 _ =>
  fd 1 t6 (fun t43 _ =>
  ld1 t43 (fun t44 _ =>
  boI .sub t42 t44 (fun t45 _ =>
  nck t0 (fun t47 _ =>
  fd 0 t47 (fun t48 _ =>
  fd 0 t48 (fun t49 _ =>
  ld1 t49 (fun t50 _ =>
  fd 0 t6 (fun t51 _ =>
  ld1 t51 (fun t52 _ =>
  ixs 5 t50 t52 (fun t53 _ =>
  fd 1 t53 (fun t54 _ =>
  ld1 t54 (fun t55 _ =>
  nck t0 (fun t57 _ =>
  fd 0 t57 (fun t58 _ =>
  fd 1 t58 (fun t59 _ =>
  ld1 t59 (fun t60 _ =>
  fd 0 t6 (fun t61 _ =>
  ld1 t61 (fun t62 _ =>
  ixs 1 t60 t62 (fun t63 _ =>
  ld1 t63 (fun t64 _ =>
  fd 0 t7 (fun t65 _ =>
  ld1 t65 (fun t66 _ =>
  ixs 1 t64 t66 (fun t67 _ =>
  ld1 t67 (fun t68 _ =>
  boI .add t55 t68 (fun t69 _ =>
  boI .lss t45 t69 (fun t70 _ =>
  s192_p4 K B1 B2 t0 t4 t5 t11 t12 t13 t70 w) w0) w0) w0) w0) w0) w0) w0) w0) w0) w0) w0) w0) w0) w0) w0) w0) w0) w0) w0) w0) w0) w0) w0) w0) w0) w0) w0) w0
def s192_p5 (K : Value → World → Prop) (B1 : List Value → World → Prop) (B2 : List Value → World → Prop) (t0 t4 t5 t6 t7 t11 t12 t13 : Value) (w : World) : Prop := s192_p5_d K B1 B2 t0 t4 t5 t6 t7 t11 t12 t13 (drw w) (drw w)
def s192_p5_den (K : Value → World → Prop) (M1 : (Nat → Value) → World → Prop) (M2 : (Nat → Value) → World → Prop) : (Nat → Value) → World → Prop := denL Tryz.prog [(cd (Tryz.f192.body.getD .skip) [1, 0, 1, 0, 0, 1, 1, 0, 0, 1, 1, 0, 0, 1, 0, 0, 1, 0])] (s192_p4_den K M1 M2) (fun i => (bif Nat.beq i 3 then (s192_p3_den K M1 M2) else (bif Nat.beq i 2 then (s192_p2_den K M1) else (bif Nat.beq i 1 then (s192_p2_den K M1) else (bif Nat.beq i 0 then (s192_p1_den K) else (fun _ _ => False)))))) (s192_R K)
theorem s192_p5_ok (K : Value → World → Prop) (B1 : List Value → World → Prop) (B2 : List Value → World → Prop) (s : Nat → Value) (w : World) (h : s192_p5 K B1 B2 (s 0) (s 4) (s 5) (s 6) (s 7) (s 11) (s 12) (s 13) w) : Tr (s192_p5_den K (fun s w => B1 [s 0, s 11, s 12, s 13] w) (fun s w => B2 [s 0, s 4, s 5, s 11, s 12, s 13] w) s w) :=
  tr_draw (P := Tryz.prog) (ops := (ro (cd (Tryz.f192.body.getD .skip) [1, 0, 1, 0, 0, 1, 1, 0, 0, 1, 1, 0, 0, 1, 0, 0, 1, 0]))) (ms := [0, 1, 0, 4, 15, 0, 32, 96, 224, 480, 0, 1024, 4064, 8160, 16352, 0, 32768, 98304, 229376, 491520, 0, 1048576, 4161536, 8355840, 0, 16777216, 67076096, 134184960, 268435424, 536870911]) (cs := [0, 1, 2, 3, 4, 5, 6, 7, 8, 9, 10, 11, 12, 13, 14, 15, 16, 17, 18, 19, 20, 21, 22, 23, 24, 25, 26, 27, 28, 29]) (N := (fun s w => s192_p4 K B1 B2 (s 0) (s 4) (s 5) (s 11) (s 12) (s 13) (s 70) w)) (N' := (s192_p4_den K (fun s w => B1 [s 0, s 11, s 12, s 13] w) (fun s w => B2 [s 0, s 4, s 5, s 11, s 12, s 13] w))) (s := s) (w := w) (p := s192_p5 K B1 B2 (s 0) (s 4) (s 5) (s 6) (s 7) (s 11) (s 12) (s 13) w) (q := s192_p5_den K (fun s w => B1 [s 0, s 11, s 12, s 13] w) (fun s w => B2 [s 0, s 4, s 5, s 11, s 12, s 13] w) s w) (by kernel_rfl) (by kernel_rfl) (fun s w h => s192_p4_ok K B1 B2 s w @h) (by kernel_rfl) (by kernel_rfl) @h
def s192_p6_d (K : Value → World → Prop) (B1 : List Value → World → Prop) (B2 : List Value → World → Prop) (J : World → Prop) (t0 t4 t5 t11 t12 t13 : Value) (w0 w : World) : Prop :=
  fd 6 t4 (fun t30 _ =>
  Go.Sh.R.qw J (ld1 t30) (fun t31 =>
  ixs 2 t31 t5 (fun t33 _ =>
  Go.Sh.R.qw J (ldn 2 t33) (fun t34 =>
  fd 6 t4 (fun t35 _ =>
  Go.Sh.R.qw J (ld1 t35) (fun t36 =>
  boI .add t5 (.int .i64 1) (fun t38 _ =>
  ixs 2 t36 t38 (fun t39 _ =>
  Go.Sh.R.qw J (ldn 2 t39) (fun t40 =>
  (nw 88 #[(.int .i64 0), (.int .i64 0)] (fun t6 w =>
  J w ∧
  nw 88 #[(.int .i64 0), (.int .i64 0)] (fun t7 w =>
  J w ∧
  stn 2 t6 t34 (fun w =>
  J w ∧
  stn 2 t7 t40 (fun w =>
  s192_p5 K B1 B2 t0 t4 t5 t6 t7 t11 t12 t13 w) w) w) w) w) ∧
  (nw 88 #[(.int .i64 0), (.int .i64 0)] (fun t7_2 w =>
  J w ∧
  nw 88 #[(.int .i64 0), (.int .i64 0)] (fun t6_2 w =>
  J w ∧
  stn 2 t6_2 t34 (fun w =>
  J w ∧
  stn 2 t7_2 t40 (fun w =>
  s192_p5 K B1 B2 t0 t4 t5 t6_2 t7_2 t11 t12 t13 w) w) w) w) w))) w0) w0)) w0)) w0)) w0
def s192_p6 (K : Value → World → Prop) (B1 : List Value → World → Prop) (B2 : List Value → World → Prop) (t0 t4 t5 t11 t12 t13 : Value) (w : World) : Prop := ∃ J : World → Prop, J (drw w) ∧ s192_p6_d K B1 B2 J t0 t4 t5 t11 t12 t13 (drw w) (drw w)
def s192_p6_den (K : Value → World → Prop) (M1 : (Nat → Value) → World → Prop) (M2 : (Nat → Value) → World → Prop) : (Nat → Value) → World → Prop := denL Tryz.prog [(cd (Tryz.f192.body.getD .skip) [1, 0, 1, 0, 0, 1, 1, 0, 0, 1, 1, 0, 0, 1, 0, 0, 0])] (s192_p5_den K M1 M2) (fun i => (bif Nat.beq i 3 then (s192_p3_den K M1 M2) else (bif Nat.beq i 2 then (s192_p2_den K M1) else (bif Nat.beq i 1 then (s192_p2_den K M1) else (bif Nat.beq i 0 then (s192_p1_den K) else (fun _ _ => False)))))) (s192_R K)
theorem s192_p6_ok (K : Value → World → Prop) (B1 : List Value → World → Prop) (B2 : List Value → World → Prop) (s : Nat → Value) (w : World) (h : s192_p6 K B1 B2 (s 0) (s 4) (s 5) (s 11) (s 12) (s 13) w) : Tr (s192_p6_den K (fun s w => B1 [s 0, s 11, s 12, s 13] w) (fun s w => B2 [s 0, s 4, s 5, s 11, s 12, s 13] w) s w) :=
  Go.Sh.R.tr_drawR (P := Tryz.prog) (ops := (ro (cd (Tryz.f192.body.getD .skip) [1, 0, 1, 0, 0, 1, 1, 0, 0, 1, 1, 0, 0, 1, 0, 0, 0]))) (ms := [0, 1, 0, 7, 15, 0, 32, 0, 128, 480, 992, 0, 0, 6175, 16383]) (cs := [0, 1, 2, 3, 4, 5, 6, 7, 8, 9, 10]) (N := (fun s w => s192_p5 K B1 B2 (s 0) (s 4) (s 5) (s 6) (s 7) (s 11) (s 12) (s 13) w)) (N' := (s192_p5_den K (fun s w => B1 [s 0, s 11, s 12, s 13] w) (fun s w => B2 [s 0, s 4, s 5, s 11, s 12, s 13] w))) (s := s) (w := w) (p := fun J => s192_p6_d K B1 B2 J (s 0) (s 4) (s 5) (s 11) (s 12) (s 13) (drw w) (drw w)) (q := s192_p6_den K (fun s w => B1 [s 0, s 11, s 12, s 13] w) (fun s w => B2 [s 0, s 4, s 5, s 11, s 12, s 13] w) s w) (by kernel_rfl) (by kernel_rfl) (fun s w h => s192_p5_ok K B1 B2 s w @h) (by kernel_rfl) (by kernel_rfl) @h
def s192_p7 (K : Value → World → Prop) (B1 : List Value → World → Prop) (B2 : List Value → World → Prop) (t0 t4 t5 t11 t12 t13 : Value) (w : World) : Prop :=
  fd 1 t4 (fun t17 w =>
  ld1 t17 (fun t18 w =>
  cl Tryz.prog 193 #[t18] (fun t19 w =>
  gd t19 true (fun K w => K t5 w) (fun t21 w =>
  gd t19 true (boI .add t21 (.int .i64 1)) (fun t22 w =>
  gd t19 true (fd 6 t4) (fun t23 w =>
  gd t19 true (ld1 t23) (fun t24 w =>
  gd t19 true (lnS t24) (fun t25 w =>
  gd t19 true (boI .lss t22 t25) (fun t26 w =>
  pk t19 t26 (.bool false) (fun t27 w =>
  ifb t27
  (s192_p6 K B1 B2 t0 t4 t5 t11 t12 t13 w)
  (s192_p2 K B1 t0 t11 t12 t13 w)) w) w) w) w) w) w) w) w) w) w
def s192_p7_den (K : Value → World → Prop) (M1 : (Nat → Value) → World → Prop) (M2 : (Nat → Value) → World → Prop) : (Nat → Value) → World → Prop := denL Tryz.prog [(cd (Tryz.f192.body.getD .skip) [1, 0, 1, 0, 0, 1, 1, 0, 0, 1, 1, 0, 0, 0, 0]), (cd (Tryz.f192.body.getD .skip) [1, 0, 1, 0, 0, 1, 1, 0, 0, 1, 1, 0, 0, 0, 1])] (s192_p6_den K M1 M2) (fun i => (bif Nat.beq i 2 then (s192_p2_den K M1) else (bif Nat.beq i 1 then (s192_p2_den K M1) else (bif Nat.beq i 0 then (s192_p1_den K) else (fun _ _ => False))))) (s192_R K)
theorem s192_p7_ok (K : Value → World → Prop) (B1 : List Value → World → Prop) (B2 : List Value → World → Prop) (s : Nat → Value) (w : World) (h : s192_p7 K B1 B2 (s 0) (s 4) (s 5) (s 11) (s 12) (s 13) w) : Tr (s192_p7_den K (fun s w => B1 [s 0, s 11, s 12, s 13] w) (fun s w => B2 [s 0, s 4, s 5, s 11, s 12, s 13] w) s w) :=
  tr_simple (P := Tryz.prog) (codes := [(cd (Tryz.f192.body.getD .skip) [1, 0, 1, 0, 0, 1, 1, 0, 0, 1, 1, 0, 0, 0, 0]), (cd (Tryz.f192.body.getD .skip) [1, 0, 1, 0, 0, 1, 1, 0, 0, 1, 1, 0, 0, 0, 1])]) (N := (fun s w => s192_p6 K B1 B2 (s 0) (s 4) (s 5) (s 11) (s 12) (s 13) w)) (N' := (s192_p6_den K (fun s w => B1 [s 0, s 11, s 12, s 13] w) (fun s w => B2 [s 0, s 4, s 5, s 11, s 12, s 13] w))) (X := (fun i => (bif Nat.beq i 2 then (fun s w => s192_p2 K B1 (s 0) (s 11) (s 12) (s 13) w) else (bif Nat.beq i 1 then (fun s w => s192_p2 K B1 (s 0) (s 11) (s 12) (s 13) w) else (bif Nat.beq i 0 then (fun s w => s192_p1 K w) else (fun _ _ => False)))))) (X' := (fun i => (bif Nat.beq i 2 then (s192_p2_den K (fun s w => B1 [s 0, s 11, s 12, s 13] w)) else (bif Nat.beq i 1 then (s192_p2_den K (fun s w => B1 [s 0, s 11, s 12, s 13] w)) else (bif Nat.beq i 0 then (s192_p1_den K) else (fun _ _ => False)))))) (R := s192_R K) (s := s) (w := w) (p := s192_p7 K B1 B2 (s 0) (s 4) (s 5) (s 11) (s 12) (s 13) w) (q := s192_p7_den K (fun s w => B1 [s 0, s 11, s 12, s 13] w) (fun s w => B2 [s 0, s 4, s 5, s 11, s 12, s 13] w) s w) (fun s w h => s192_p6_ok K B1 B2 s w @h) (fun i => (tr_bif (fun s w h => s192_p2_ok K B1 s w @h) (tr_bif (fun s w h => s192_p2_ok K B1 s w @h) (tr_bif (fun s w h => s192_p1_ok K s w @h) tr_id)))) (by kernel_rfl) (by kernel_rfl) @h
def s192_p8_F (K : Value → World → Prop) (B1 : List Value → World → Prop) (B2 : List Value → World → Prop) (l : List Value) (w : World) : Prop :=
  match l with
  | [t0, t4, t5, t11, t12, t13] => s192_p7 K B1 B2 t0 t4 t5 t11 t12 t13 w
  | _ => False
theorem s192_p8_Fe {K : Value → World → Prop} {B1 : List Value → World → Prop} {B2 : List Value → World → Prop} {t0 t4 t5 t11 t12 t13 : Value} {w : World} : s192_p8_F K B1 B2 [t0, t4, t5, t11, t12, t13] w = s192_p7 K B1 B2 t0 t4 t5 t11 t12 t13 w := by kernel_rfl
def s192_p8 (K : Value → World → Prop) (B1 : List Value → World → Prop) (t0 t4 t5 t11 t12 t13 : Value) (w : World) : Prop :=
  LoopL (s192_p8_F K B1) [t0, t4, t5, t11, t12, t13] w
def s192_p8_den (K : Value → World → Prop) (M1 : (Nat → Value) → World → Prop) : (Nat → Value) → World → Prop := fun s w => LoopP (fun M2 s w => s192_p7_den K M1 M2 s w) s w
theorem s192_p8_ok (K : Value → World → Prop) (B1 : List Value → World → Prop) (s : Nat → Value) (w : World) (h : s192_p8 K B1 (s 0) (s 4) (s 5) (s 11) (s 12) (s 13) w) : Tr (s192_p8_den K (fun s w => B1 [s 0, s 11, s 12, s 13] w) s w) :=
  tr_loop (G := fun N' s w => s192_p7_den K (fun s w => B1 [s 0, s 11, s 12, s 13] w) N' s w) (F := s192_p8_F K B1) (sel := fun s => [s 0, s 4, s 5, s 11, s 12, s 13]) (s := s) (w := w) (p := s192_p8 K B1 (s 0) (s 4) (s 5) (s 11) (s 12) (s 13) w) (q := s192_p8_den K (fun s w => B1 [s 0, s 11, s 12, s 13] w) s w) (fun B s w h => s192_p7_ok K B1 B s w @h) (by kernel_rfl) (by kernel_rfl) @h
def s192_p9 (K : Value → World → Prop) (B1 : List Value → World → Prop) (t0 t11 t12 t13 : Value) (w : World) : Prop :=
  ixs 7 t11 t13 (fun t15 w =>
  ldn 7 t15 (fun t16 w =>
  nw 85 #[(.int .i64 0), (.int .i64 0), (.int .i64 0), (.int .i64 0), (.int .i64 0), (.int .i64 0), (.slice none 0 0)] (fun t4 w =>
  stn 7 t4 t16 (fun w =>
  s192_p8 K B1 t0 t4 (.int .i64 0) t11 t12 t13 w) w) w) w) w
def s192_p9_den (K : Value → World → Prop) (M1 : (Nat → Value) → World → Prop) : (Nat → Value) → World → Prop := denL Tryz.prog [(cd (Tryz.f192.body.getD .skip) [1, 0, 1, 0, 0, 1, 1, 0, 0, 0]), (cd (Tryz.f192.body.getD .skip) [1, 0, 1, 0, 0, 1, 1, 0, 0, 1, 0])] (s192_p8_den K M1) (fun i => (bif Nat.beq i 1 then (s192_p2_den K M1) else (bif Nat.beq i 0 then (s192_p1_den K) else (fun _ _ => False)))) (s192_R K)
theorem s192_p9_ok (K : Value → World → Prop) (B1 : List Value → World → Prop) (s : Nat → Value) (w : World) (h : s192_p9 K B1 (s 0) (s 11) (s 12) (s 13) w) : Tr (s192_p9_den K (fun s w => B1 [s 0, s 11, s 12, s 13] w) s w) :=
  tr_simple (P := Tryz.prog) (codes := [(cd (Tryz.f192.body.getD .skip) [1, 0, 1, 0, 0, 1, 1, 0, 0, 0]), (cd (Tryz.f192.body.getD .skip) [1, 0, 1, 0, 0, 1, 1, 0, 0, 1, 0])]) (N := (fun s w => s192_p8 K B1 (s 0) (s 4) (s 5) (s 11) (s 12) (s 13) w)) (N' := (s192_p8_den K (fun s w => B1 [s 0, s 11, s 12, s 13] w))) (X := (fun i => (bif Nat.beq i 1 then (fun s w => s192_p2 K B1 (s 0) (s 11) (s 12) (s 13) w) else (bif Nat.beq i 0 then (fun s w => s192_p1 K w) else (fun _ _ => False))))) (X' := (fun i => (bif Nat.beq i 1 then (s192_p2_den K (fun s w => B1 [s 0, s 11, s 12, s 13] w)) else (bif Nat.beq i 0 then (s192_p1_den K) else (fun _ _ => False))))) (R := s192_R K) (s := s) (w := w) (p := s192_p9 K B1 (s 0) (s 11) (s 12) (s 13) w) (q := s192_p9_den K (fun s w => B1 [s 0, s 11, s 12, s 13] w) s w) (fun s w h => s192_p8_ok K B1 s w @h) (fun i => (tr_bif (fun s w h => s192_p2_ok K B1 s w @h) (tr_bif (fun s w h => s192_p1_ok K s w @h) tr_id))) (by kernel_rfl) (by kernel_rfl) @h
def s192_p10 (K : Value → World → Prop) (B1 : List Value → World → Prop) (t0 t11 t12 t13 : Value) (w : World) : Prop :=
  boI .lss t13 t12 (fun t14 w =>
  ifb t14
  (s192_p9 K B1 t0 t11 t12 t13 w)
  (s192_p1 K w)) w
def s192_p10_den (K : Value → World → Prop) (M1 : (Nat → Value) → World → Prop) : (Nat → Value) → World → Prop := denL Tryz.prog [(cd (Tryz.f192.body.getD .skip) [1, 0, 1, 0, 0, 0]), (cd (Tryz.f192.body.getD .skip) [1, 0, 1, 0, 0, 1, 0])] (s192_p9_den K M1) (fun i => (bif Nat.beq i 0 then (s192_p1_den K) else (fun _ _ => False))) (s192_R K)
theorem s192_p10_ok (K : Value → World → Prop) (B1 : List Value → World → Prop) (s : Nat → Value) (w : World) (h : s192_p10 K B1 (s 0) (s 11) (s 12) (s 13) w) : Tr (s192_p10_den K (fun s w => B1 [s 0, s 11, s 12, s 13] w) s w) :=
  tr_simple (P := Tryz.prog) (codes := [(cd (Tryz.f192.body.getD .skip) [1, 0, 1, 0, 0, 0]), (cd (Tryz.f192.body.getD .skip) [1, 0, 1, 0, 0, 1, 0])]) (N := (fun s w => s192_p9 K B1 (s 0) (s 11) (s 12) (s 13) w)) (N' := (s192_p9_den K (fun s w => B1 [s 0, s 11, s 12, s 13] w))) (X := (fun i => (bif Nat.beq i 0 then (fun s w => s192_p1 K w) else (fun _ _ => False)))) (X' := (fun i => (bif Nat.beq i 0 then (s192_p1_den K) else (fun _ _ => False)))) (R := s192_R K) (s := s) (w := w) (p := s192_p10 K B1 (s 0) (s 11) (s 12) (s 13) w) (q := s192_p10_den K (fun s w => B1 [s 0, s 11, s 12, s 13] w) s w) (fun s w h => s192_p9_ok K B1 s w @h) (fun i => (tr_bif (fun s w h => s192_p1_ok K s w @h) tr_id)) (by kernel_rfl) (by kernel_rfl) @h
def s192_p11_F (K : Value → World → Prop) (B1 : List Value → World → Prop) (l : List Value) (w : World) : Prop :=
  match l with
  | [t0, t11, t12, t13] => s192_p10 K B1 t0 t11 t12 t13 w
  | _ => False
theorem s192_p11_Fe {K : Value → World → Prop} {B1 : List Value → World → Prop} {t0 t11 t12 t13 : Value} {w : World} : s192_p11_F K B1 [t0, t11, t12, t13] w = s192_p10 K B1 t0 t11 t12 t13 w := by kernel_rfl
def s192_p11 (K : Value → World → Prop) (t0 t11 t12 t13 : Value) (w : World) : Prop :=
  LoopL (s192_p11_F K) [t0, t11, t12, t13] w
def s192_p11_den (K : Value → World → Prop) : (Nat → Value) → World → Prop := fun s w => LoopP (fun M1 s w => s192_p10_den K M1 s w) s w
theorem s192_p11_ok (K : Value → World → Prop) (s : Nat → Value) (w : World) (h : s192_p11 K (s 0) (s 11) (s 12) (s 13) w) : Tr (s192_p11_den K s w) :=
  tr_loop (G := fun N' s w => s192_p10_den K N' s w) (F := s192_p11_F K) (sel := fun s => [s 0, s 11, s 12, s 13]) (s := s) (w := w) (p := s192_p11 K (s 0) (s 11) (s 12) (s 13) w) (q := s192_p11_den K s w) (fun B s w h => s192_p10_ok K B s w @h) (by kernel_rfl) (by kernel_rfl) @h
def s192_p12 (K : Value → World → Prop) (t0 : Value) (w : World) : Prop :=
  nck t0 (fun t9 w =>
  fd 15 t9 (fun t10 w =>
  ld1 t10 (fun t11 w =>
  lnS t11 (fun t12 w =>
  s192_p11 K t0 t11 t12 (.int .i64 0) w) w) w) w) w
def s192_p12_den (K : Value → World → Prop) : (Nat → Value) → World → Prop := denL Tryz.prog [(cd (Tryz.f192.body.getD .skip) [0]), (cd (Tryz.f192.body.getD .skip) [1, 0, 0])] (s192_p11_den K) (fun i => (fun _ _ => False)) (s192_R K)
theorem s192_p12_ok (K : Value → World → Prop) (s : Nat → Value) (w : World) (h : s192_p12 K (s 0) w) : Tr (s192_p12_den K s w) :=
  tr_simple (P := Tryz.prog) (codes := [(cd (Tryz.f192.body.getD .skip) [0]), (cd (Tryz.f192.body.getD .skip) [1, 0, 0])]) (N := (fun s w => s192_p11 K (s 0) (s 11) (s 12) (s 13) w)) (N' := (s192_p11_den K)) (X := (fun i => (fun _ _ => False))) (X' := (fun i => (fun _ _ => False))) (R := s192_R K) (s := s) (w := w) (p := s192_p12 K (s 0) w) (q := s192_p12_den K s w) (fun s w h => s192_p11_ok K s w @h) (fun i => tr_id) (by kernel_rfl) (by kernel_rfl) @h
/-- the call, from the text -/
theorem c192 (t0 : Value) {K : Value → World → Prop} {w : World} (h : s192_p12 K t0 w) : cl Tryz.prog 192 #[t0] K w :=
  calls_of_tr (c := (Tryz.f192.body.getD .skip)) (fn := Tryz.f192) (q := s192_p12_den K (st0 #[t0]) w) Tryz.func192 (by kernel_rfl) (by kernel_rfl) (Nat.le_of_ble_eq_true (by kernel_rfl)) (by kernel_rfl) (by kernel_rfl) (s192_p12_ok K (st0 #[t0]) w @h)

/-! ### function 193 : e2e.enginem.Alive -/
def s193_R (K : Value → World → Prop) (s : Nat → Value) (w : World) : Prop := retv Tryz.prog s Tryz.f193.results.toList (fun vs => K (pack vs) w) w
def s193_p1 (K : Value → World → Prop) (w : World) : Prop :=
  K (.bool false) w
def s193_p1_den (K : Value → World → Prop) : (Nat → Value) → World → Prop := denL Tryz.prog [(cd (Tryz.f193.body.getD .skip) [1, 1, 0]), (cd (Tryz.f193.body.getD .skip) [1, 1, 1])] (fun _ _ => False) (fun i => (fun _ _ => False)) (s193_R K)
theorem s193_p1_ok (K : Value → World → Prop) (s : Nat → Value) (w : World) (h : s193_p1 K w) : Tr (s193_p1_den K s w) :=
  tr_simple (P := Tryz.prog) (codes := [(cd (Tryz.f193.body.getD .skip) [1, 1, 0]), (cd (Tryz.f193.body.getD .skip) [1, 1, 1])]) (N := (fun _ _ => False)) (N' := (fun _ _ => False)) (X := (fun i => (fun _ _ => False))) (X' := (fun i => (fun _ _ => False))) (R := s193_R K) (s := s) (w := w) (p := s193_p1 K w) (q := s193_p1_den K s w) tr_id (fun i => tr_id) (by kernel_rfl) (by kernel_rfl) @h
def s193_p2 (K : Value → World → Prop) (t0 : Value) (w : World) : Prop :=
  boI .eql t0 (.int .i64 1) (fun t5 w =>
  ifb t5
  (ifb t5
  (K (.bool true) w)
  (s193_p1 K w))
  (boI .eql t0 (.int .i64 2) (fun t6 w =>
  ifb t6
  (ifb t6
  (K (.bool true) w)
  (s193_p1 K w))
  (boI .eql t0 (.int .i64 3) (fun t7 w =>
  ifb t7
  (ifb t7
  (K (.bool true) w)
  (s193_p1 K w))
  (boI .eql t0 (.int .i64 8) (fun t8 w =>
  ifb t8
  (K (.bool true) w)
  (s193_p1 K w)) w)) w)) w)) w
def s193_p2_den (K : Value → World → Prop) : (Nat → Value) → World → Prop := denL Tryz.prog [(cd (Tryz.f193.body.getD .skip) [0]), (cd (Tryz.f193.body.getD .skip) [1, 0, 0]), (cd (Tryz.f193.body.getD .skip) [1, 0, 1])] (s193_p1_den K) (fun i => (fun _ _ => False)) (s193_R K)
theorem s193_p2_ok (K : Value → World → Prop) (s : Nat → Value) (w : World) (h : s193_p2 K (s 0) w) : Tr (s193_p2_den K s w) :=
  tr_simple (P := Tryz.prog) (codes := [(cd (Tryz.f193.body.getD .skip) [0]), (cd (Tryz.f193.body.getD .skip) [1, 0, 0]), (cd (Tryz.f193.body.getD .skip) [1, 0, 1])]) (N := (fun s w => s193_p1 K w)) (N' := (s193_p1_den K)) (X := (fun i => (fun _ _ => False))) (X' := (fun i => (fun _ _ => False))) (R := s193_R K) (s := s) (w := w) (p := s193_p2 K (s 0) w) (q := s193_p2_den K s w) (fun s w h => s193_p1_ok K s w @h) (fun i => tr_id) (by kernel_rfl) (by kernel_rfl) @h
/-- the call, from the text -/
theorem c193 (t0 : Value) {K : Value → World → Prop} {w : World} (h : s193_p2 K t0 w) : cl Tryz.prog 193 #[t0] K w :=
  calls_of_tr (c := (Tryz.f193.body.getD .skip)) (fn := Tryz.f193) (q := s193_p2_den K (st0 #[t0]) w) Tryz.func193 (by kernel_rfl) (by kernel_rfl) (Nat.le_of_ble_eq_true (by kernel_rfl)) (by kernel_rfl) (by kernel_rfl) (s193_p2_ok K (st0 #[t0]) w @h)

/-! ### function 227 : (*e2e.enginem.State).end -/
def s227_R (K : Value → World → Prop) (s : Nat → Value) (w : World) : Prop := retv Tryz.prog s Tryz.f227.results.toList (fun vs => K (pack vs) w) w
def s227_p1 (K : Value → World → Prop) (t3 : Value) (w : World) : Prop :=
  K t3 w
def s227_p1_den (K : Value → World → Prop) : (Nat → Value) → World → Prop := denL Tryz.prog [(cd (Tryz.f227.body.getD .skip) [1, 1, 1, 0]), (cd (Tryz.f227.body.getD .skip) [1, 1, 1, 1])] (fun _ _ => False) (fun i => (fun _ _ => False)) (s227_R K)
theorem s227_p1_ok (K : Value → World → Prop) (s : Nat → Value) (w : World) (h : s227_p1 K (s 3) w) : Tr (s227_p1_den K s w) :=
  tr_simple (P := Tryz.prog) (codes := [(cd (Tryz.f227.body.getD .skip) [1, 1, 1, 0]), (cd (Tryz.f227.body.getD .skip) [1, 1, 1, 1])]) (N := (fun _ _ => False)) (N' := (fun _ _ => False)) (X := (fun i => (fun _ _ => False))) (X' := (fun i => (fun _ _ => False))) (R := s227_R K) (s := s) (w := w) (p := s227_p1 K (s 3) w) (q := s227_p1_den K s w) tr_id (fun i => tr_id) (by kernel_rfl) (by kernel_rfl) @h
def s227_p2 (K : Value → World → Prop) (B1 : List Value → World → Prop) (t3 t21 t22 t23 : Value) (w : World) : Prop :=
  boI .lss t23 t22 (fun t24 w =>
  ifb t24
  (ixs 5 t21 t23 (fun t25 w =>
  ldn 5 t25 (fun t26 w =>
  nw 113 #[(.int .i64 0), (.int .i64 0), (.int .i64 0), (.int .i64 0), (.int .i64 0)] (fun t5 w =>
  stn 5 t5 t26 (fun w =>
  fd 1 t5 (fun t28 w =>
  ld1 t28 (fun t29 w =>
  boI .add t3 t29 (fun t30 w =>
  boI .add t23 (.int .i64 1) (fun t31 w =>
  B1 [t30, t21, t22, t31] w) w) w) w) w) w) w) w) w)
  (s227_p1 K t3 w)) w
def s227_p2_den (K : Value → World → Prop) (M1 : (Nat → Value) → World → Prop) : (Nat → Value) → World → Prop := denL Tryz.prog [(cd (Tryz.f227.body.getD .skip) [1, 1, 0, 1, 0, 0, 0]), (cd (Tryz.f227.body.getD .skip) [1, 1, 0, 1, 0, 0, 1, 0]), (cd (Tryz.f227.body.getD .skip) [1, 1, 0, 1, 0, 0, 1, 1, 0]), (cd (Tryz.f227.body.getD .skip) [1, 1, 0, 1, 0, 0, 1, 1, 1])] M1 (fun i => (bif Nat.beq i 0 then (s227_p1_den K) else (fun _ _ => False))) (s227_R K)
theorem s227_p2_ok (K : Value → World → Prop) (B1 : List Value → World → Prop) (s : Nat → Value) (w : World) (h : s227_p2 K B1 (s 3) (s 21) (s 22) (s 23) w) : Tr (s227_p2_den K (fun s w => B1 [s 3, s 21, s 22, s 23] w) s w) :=
  tr_simple (P := Tryz.prog) (codes := [(cd (Tryz.f227.body.getD .skip) [1, 1, 0, 1, 0, 0, 0]), (cd (Tryz.f227.body.getD .skip) [1, 1, 0, 1, 0, 0, 1, 0]), (cd (Tryz.f227.body.getD .skip) [1, 1, 0, 1, 0, 0, 1, 1, 0]), (cd (Tryz.f227.body.getD .skip) [1, 1, 0, 1, 0, 0, 1, 1, 1])]) (N := (fun s w => B1 [s 3, s 21, s 22, s 23] w)) (N' := (fun s w => B1 [s 3, s 21, s 22, s 23] w)) (X := (fun i => (bif Nat.beq i 0 then (fun s w => s227_p1 K (s 3) w) else (fun _ _ => False)))) (X' := (fun i => (bif Nat.beq i 0 then (s227_p1_den K) else (fun _ _ => False)))) (R := s227_R K) (s := s) (w := w) (p := s227_p2 K B1 (s 3) (s 21) (s 22) (s 23) w) (q := s227_p2_den K (fun s w => B1 [s 3, s 21, s 22, s 23] w) s w) tr_id (fun i => (tr_bif (fun s w h => s227_p1_ok K s w @h) tr_id)) (by kernel_rfl) (by kernel_rfl) @h
def s227_p3_F (K : Value → World → Prop) (B1 : List Value → World → Prop) (l : List Value) (w : World) : Prop :=
  match l with
  | [t3, t21, t22, t23] => s227_p2 K B1 t3 t21 t22 t23 w
  | _ => False
theorem s227_p3_Fe {K : Value → World → Prop} {B1 : List Value → World → Prop} {t3 t21 t22 t23 : Value} {w : World} : s227_p3_F K B1 [t3, t21, t22, t23] w = s227_p2 K B1 t3 t21 t22 t23 w := by kernel_rfl
def s227_p3 (K : Value → World → Prop) (t3 t21 t22 t23 : Value) (w : World) : Prop :=
  LoopL (s227_p3_F K) [t3, t21, t22, t23] w
def s227_p3_den (K : Value → World → Prop) : (Nat → Value) → World → Prop := fun s w => LoopP (fun M1 s w => s227_p2_den K M1 s w) s w
theorem s227_p3_ok (K : Value → World → Prop) (s : Nat → Value) (w : World) (h : s227_p3 K (s 3) (s 21) (s 22) (s 23) w) : Tr (s227_p3_den K s w) :=
  tr_loop (G := fun N' s w => s227_p2_den K N' s w) (F := s227_p3_F K) (sel := fun s => [s 3, s 21, s 22, s 23]) (s := s) (w := w) (p := s227_p3 K (s 3) (s 21) (s 22) (s 23) w) (q := s227_p3_den K s w) (fun B s w h => s227_p2_ok K B s w @h) (by kernel_rfl) (by kernel_rfl) @h
def s227_p4 (K : Value → World → Prop) (t0 t3 : Value) (w : World) : Prop :=
  nck t0 (fun t18 w =>
  fd 0 t18 (fun t19 w =>
  fd 0 t19 (fun t20 w =>
  ld1 t20 (fun t21 w =>
  lnS t21 (fun t22 w =>
  s227_p3 K t3 t21 t22 (.int .i64 0) w) w) w) w) w) w
def s227_p4_den (K : Value → World → Prop) : (Nat → Value) → World → Prop := denL Tryz.prog [(cd (Tryz.f227.body.getD .skip) [1, 1, 0, 0])] (s227_p3_den K) (fun i => (fun _ _ => False)) (s227_R K)
theorem s227_p4_ok (K : Value → World → Prop) (s : Nat → Value) (w : World) (h : s227_p4 K (s 0) (s 3) w) : Tr (s227_p4_den K s w) :=
  tr_simple (P := Tryz.prog) (codes := [(cd (Tryz.f227.body.getD .skip) [1, 1, 0, 0])]) (N := (fun s w => s227_p3 K (s 3) (s 21) (s 22) (s 23) w)) (N' := (s227_p3_den K)) (X := (fun i => (fun _ _ => False))) (X' := (fun i => (fun _ _ => False))) (R := s227_R K) (s := s) (w := w) (p := s227_p4 K (s 0) (s 3) w) (q := s227_p4_den K s w) (fun s w h => s227_p3_ok K s w @h) (fun i => tr_id) (by kernel_rfl) (by kernel_rfl) @h
def s227_p5_d (K : Value → World → Prop) (t0 : Value) (w0 w : World) : Prop :=
  nck t0 (fun t7 _ =>
  fd 0 t7 (fun t8 _ =>
  fd 3 t8 (fun t9 _ =>
  ld1 t9 (fun t10 _ =>
  nck t0 (fun t12 _ =>
  fd 0 t12 (fun t13 _ =>
  fd 2 t13 (fun t14 _ =>
  ld1 t14 (fun t15 _ =>
  boI .add t10 t15 (fun t16 _ =>
  s227_p4 K t0 t16 w) w0) w0) w0) w0) w0) w0) w0) w0) w0
def s227_p5 (K : Value → World → Prop) (t0 : Value) (w : World) : Prop := s227_p5_d K t0 (drw w) (drw w)
def s227_p5_den (K : Value → World → Prop) : (Nat → Value) → World → Prop := denL Tryz.prog [(cd (Tryz.f227.body.getD .skip) [1, 0])] (s227_p4_den K) (fun i => (fun _ _ => False)) (s227_R K)
theorem s227_p5_ok (K : Value → World → Prop) (s : Nat → Value) (w : World) (h : s227_p5 K (s 0) w) : Tr (s227_p5_den K s w) :=
  tr_draw (P := Tryz.prog) (ops := (ro (cd (Tryz.f227.body.getD .skip) [1, 0]))) (ms := [0, 1, 3, 7, 15, 0, 32, 96, 224, 480, 1023, 2047]) (cs := [0, 1, 2, 3, 4, 5, 6, 7, 8, 9, 10, 11]) (N := (fun s w => s227_p4 K (s 0) (s 3) w)) (N' := (s227_p4_den K)) (s := s) (w := w) (p := s227_p5 K (s 0) w) (q := s227_p5_den K s w) (by kernel_rfl) (by kernel_rfl) (fun s w h => s227_p4_ok K s w @h) (by kernel_rfl) (by kernel_rfl) @h
def s227_p6 (K : Value → World → Prop) (t0 : Value) (w : World) : Prop :=
  s227_p5 K t0 w
def s227_p6_den (K : Value → World → Prop) : (Nat → Value) → World → Prop := denL Tryz.prog [(cd (Tryz.f227.body.getD .skip) [0])] (s227_p5_den K) (fun i => (fun _ _ => False)) (s227_R K)
theorem s227_p6_ok (K : Value → World → Prop) (s : Nat → Value) (w : World) (h : s227_p6 K (s 0) w) : Tr (s227_p6_den K s w) :=
  tr_simple (P := Tryz.prog) (codes := [(cd (Tryz.f227.body.getD .skip) [0])]) (N := (fun s w => s227_p5 K (s 0) w)) (N' := (s227_p5_den K)) (X := (fun i => (fun _ _ => False))) (X' := (fun i => (fun _ _ => False))) (R := s227_R K) (s := s) (w := w) (p := s227_p6 K (s 0) w) (q := s227_p6_den K s w) (fun s w h => s227_p5_ok K s w @h) (fun i => tr_id) (by kernel_rfl) (by kernel_rfl) @h
/-- the call, from the text -/
theorem c227 (t0 : Value) {K : Value → World → Prop} {w : World} (h : s227_p6 K t0 w) : cl Tryz.prog 227 #[t0] K w :=
  calls_of_tr (c := (Tryz.f227.body.getD .skip)) (fn := Tryz.f227) (q := s227_p6_den K (st0 #[t0]) w) Tryz.func227 (by kernel_rfl) (by kernel_rfl) (Nat.le_of_ble_eq_true (by kernel_rfl)) (by kernel_rfl) (by kernel_rfl) (s227_p6_ok K (st0 #[t0]) w @h)

end Go.Proofs.Qxb6500896aGreat
