import Derived.Test.Qxb6500896aGreatProg
import Derived.Test.Qxb6500896aGreatShTr
namespace Go.Proofs.Qxb6500896aGreat
open Go.Sh Go.RowKit
set_option linter.unusedVariables false
set_option maxRecDepth 100000

/-! ### function 26 : e2e.enginelaw.observe -/
def s26_R (K : Value → World → Prop) (s : Nat → Value) (w : World) : Prop := retv Tryz.prog s Tryz.f26.results.toList (fun vs => K (pack vs) w) w
def s26_p1 (K : Value → World → Prop) (t5 : Value) (w : World) : Prop :=
  K t5 w
def s26_p1_den (K : Value → World → Prop) : (Nat → Value) → World → Prop := denL Tryz.prog [(cd (Tryz.f26.body.getD .skip) [1, 1, 1, 1, 1, 1, 1, 1, 1, 0]), (cd (Tryz.f26.body.getD .skip) [1, 1, 1, 1, 1, 1, 1, 1, 1, 1])] (fun _ _ => False) (fun i => (fun _ _ => False)) (s26_R K)
theorem s26_p1_ok (K : Value → World → Prop) (s : Nat → Value) (w : World) (h : s26_p1 K (s 5) w) : Tr (s26_p1_den K s w) :=
  tr_simple (P := Tryz.prog) (codes := [(cd (Tryz.f26.body.getD .skip) [1, 1, 1, 1, 1, 1, 1, 1, 1, 0]), (cd (Tryz.f26.body.getD .skip) [1, 1, 1, 1, 1, 1, 1, 1, 1, 1])]) (N := (fun _ _ => False)) (N' := (fun _ _ => False)) (X := (fun i => (fun _ _ => False))) (X' := (fun i => (fun _ _ => False))) (R := s26_R K) (s := s) (w := w) (p := s26_p1 K (s 5) w) (q := s26_p1_den K s w) tr_id (fun i => tr_id) (by kernel_rfl) (by kernel_rfl) @h
def s26_p2 (K : Value → World → Prop) (B1 : List Value → World → Prop) (t0 t3 t5 t7 t10 : Value) (w : World) : Prop :=
  boI .add t10 (.int .i64 1) (fun t73 w =>
  B1 [t0, t3, t5, t7, t73] w) w
def s26_p2_den (K : Value → World → Prop) (M1 : (Nat → Value) → World → Prop) : (Nat → Value) → World → Prop := denL Tryz.prog [(cd (Tryz.f26.body.getD .skip) [1, 1, 1, 1, 1, 1, 1, 1, 0, 1, 0, 0, 1, 1])] M1 (fun i => (bif Nat.beq i 2 then (s26_p1_den K) else (fun _ _ => False))) (s26_R K)
theorem s26_p2_ok (K : Value → World → Prop) (B1 : List Value → World → Prop) (s : Nat → Value) (w : World) (h : s26_p2 K B1 (s 0) (s 3) (s 5) (s 7) (s 10) w) : Tr (s26_p2_den K (fun s w => B1 [s 0, s 3, s 5, s 7, s 10] w) s w) :=
  tr_simple (P := Tryz.prog) (codes := [(cd (Tryz.f26.body.getD .skip) [1, 1, 1, 1, 1, 1, 1, 1, 0, 1, 0, 0, 1, 1])]) (N := (fun s w => B1 [s 0, s 3, s 5, s 7, s 10] w)) (N' := (fun s w => B1 [s 0, s 3, s 5, s 7, s 10] w)) (X := (fun i => (bif Nat.beq i 2 then (fun s w => s26_p1 K (s 5) w) else (fun _ _ => False)))) (X' := (fun i => (bif Nat.beq i 2 then (s26_p1_den K) else (fun _ _ => False)))) (R := s26_R K) (s := s) (w := w) (p := s26_p2 K B1 (s 0) (s 3) (s 5) (s 7) (s 10) w) (q := s26_p2_den K (fun s w => B1 [s 0, s 3, s 5, s 7, s 10] w) s w) tr_id (fun i => (tr_bif (fun s w h => s26_p1_ok K s w @h) tr_id)) (by kernel_rfl) (by kernel_rfl) @h
def s26_p3 (K : Value → World → Prop) (B1 : List Value → World → Prop) (B2 : List Value → World → Prop) (t0 t3 t5 t7 t10 t11 : Value) (w : World) : Prop :=
  boI .add t11 (.int .i64 1) (fun t90 w =>
  B2 [t0, t3, t5, t7, t10, t90] w) w
def s26_p3_den (K : Value → World → Prop) (M1 : (Nat → Value) → World → Prop) (M2 : (Nat → Value) → World → Prop) : (Nat → Value) → World → Prop := denL Tryz.prog [(cd (Tryz.f26.body.getD .skip) [1, 1, 1, 1, 1, 1, 1, 1, 0, 1, 0, 0, 1, 0, 0, 1, 1, 0, 0, 1, 1])] M2 (fun i => (bif Nat.beq i 4 then (s26_p2_den K M1) else (bif Nat.beq i 3 then (s26_p2_den K M1) else (bif Nat.beq i 2 then (s26_p1_den K) else (fun _ _ => False))))) (s26_R K)
theorem s26_p3_ok (K : Value → World → Prop) (B1 : List Value → World → Prop) (B2 : List Value → World → Prop) (s : Nat → Value) (w : World) (h : s26_p3 K B1 B2 (s 0) (s 3) (s 5) (s 7) (s 10) (s 11) w) : Tr (s26_p3_den K (fun s w => B1 [s 0, s 3, s 5, s 7, s 10] w) (fun s w => B2 [s 0, s 3, s 5, s 7, s 10, s 11] w) s w) :=
  tr_simple (P := Tryz.prog) (codes := [(cd (Tryz.f26.body.getD .skip) [1, 1, 1, 1, 1, 1, 1, 1, 0, 1, 0, 0, 1, 0, 0, 1, 1, 0, 0, 1, 1])]) (N := (fun s w => B2 [s 0, s 3, s 5, s 7, s 10, s 11] w)) (N' := (fun s w => B2 [s 0, s 3, s 5, s 7, s 10, s 11] w)) (X := (fun i => (bif Nat.beq i 4 then (fun s w => s26_p2 K B1 (s 0) (s 3) (s 5) (s 7) (s 10) w) else (bif Nat.beq i 3 then (fun s w => s26_p2 K B1 (s 0) (s 3) (s 5) (s 7) (s 10) w) else (bif Nat.beq i 2 then (fun s w => s26_p1 K (s 5) w) else (fun _ _ => False)))))) (X' := (fun i => (bif Nat.beq i 4 then (s26_p2_den K (fun s w => B1 [s 0, s 3, s 5, s 7, s 10] w)) else (bif Nat.beq i 3 then (s26_p2_den K (fun s w => B1 [s 0, s 3, s 5, s 7, s 10] w)) else (bif Nat.beq i 2 then (s26_p1_den K) else (fun _ _ => False)))))) (R := s26_R K) (s := s) (w := w) (p := s26_p3 K B1 B2 (s 0) (s 3) (s 5) (s 7) (s 10) (s 11) w) (q := s26_p3_den K (fun s w => B1 [s 0, s 3, s 5, s 7, s 10] w) (fun s w => B2 [s 0, s 3, s 5, s 7, s 10, s 11] w) s w) tr_id (fun i => (tr_bif (fun s w h => s26_p2_ok K B1 s w @h) (tr_bif (fun s w h => s26_p2_ok K B1 s w @h) (tr_bif (fun s w h => s26_p1_ok K s w @h) tr_id)))) (by kernel_rfl) (by kernel_rfl) @h
def s26_p4 (K : Value → World → Prop) (B1 : List Value → World → Prop) (B2 : List Value → World → Prop) (t0 t3 t5 t7 t10 t11 : Value) (w : World) : Prop :=
  fd 2 t3 (fun t85 w =>
  ld1 t85 (fun t86 w =>
  boI .add t7 t86 (fun t87 w =>
  boI .leq t11 t87 (fun t88 w =>
  ifb t88
  (boI .geq t11 (.int .i64 0) (fun t92 w =>
  ifb t92
  (bdq [(.int .u8 0), (.int .i64 0), (.int .i64 0), (.int .i64 0), (.int .i64 0), (.int .i64 0), (.int .i64 0), (.slice none 0 0)] [(some (0, 1), (.int .u8 18)), (some (2, 1), t10), (some (3, 1), t11)] (fun t97 w =>
  cl Tryz.prog 57 #[t97] (fun t98 w =>
  cdy Tryz.prog t0 #[t98] (fun t99 w =>
  apq 5 [(.int .u8 0)] 1 t5 t99 (fun t100 w =>
  s26_p3 K B1 B2 t0 t3 t100 t7 t10 t11 w) w) w) w) w)
  (s26_p3 K B1 B2 t0 t3 t5 t7 t10 t11 w)) w)
  (s26_p2 K B1 t0 t3 t5 t7 t10 w)) w) w) w) w
def s26_p4_den (K : Value → World → Prop) (M1 : (Nat → Value) → World → Prop) (M2 : (Nat → Value) → World → Prop) : (Nat → Value) → World → Prop := denL Tryz.prog [(cd (Tryz.f26.body.getD .skip) [1, 1, 1, 1, 1, 1, 1, 1, 0, 1, 0, 0, 1, 0, 0, 1, 1, 0, 0, 0, 0]), (cd (Tryz.f26.body.getD .skip) [1, 1, 1, 1, 1, 1, 1, 1, 0, 1, 0, 0, 1, 0, 0, 1, 1, 0, 0, 0, 1]), (cd (Tryz.f26.body.getD .skip) [1, 1, 1, 1, 1, 1, 1, 1, 0, 1, 0, 0, 1, 0, 0, 1, 1, 0, 0, 1, 0])] (s26_p3_den K M1 M2) (fun i => (bif Nat.beq i 4 then (s26_p2_den K M1) else (bif Nat.beq i 3 then (s26_p2_den K M1) else (bif Nat.beq i 2 then (s26_p1_den K) else (fun _ _ => False))))) (s26_R K)
theorem s26_p4_ok (K : Value → World → Prop) (B1 : List Value → World → Prop) (B2 : List Value → World → Prop) (s : Nat → Value) (w : World) (h : s26_p4 K B1 B2 (s 0) (s 3) (s 5) (s 7) (s 10) (s 11) w) : Tr (s26_p4_den K (fun s w => B1 [s 0, s 3, s 5, s 7, s 10] w) (fun s w => B2 [s 0, s 3, s 5, s 7, s 10, s 11] w) s w) :=
  tr_simple (P := Tryz.prog) (codes := [(cd (Tryz.f26.body.getD .skip) [1, 1, 1, 1, 1, 1, 1, 1, 0, 1, 0, 0, 1, 0, 0, 1, 1, 0, 0, 0, 0]), (cd (Tryz.f26.body.getD .skip) [1, 1, 1, 1, 1, 1, 1, 1, 0, 1, 0, 0, 1, 0, 0, 1, 1, 0, 0, 0, 1]), (cd (Tryz.f26.body.getD .skip) [1, 1, 1, 1, 1, 1, 1, 1, 0, 1, 0, 0, 1, 0, 0, 1, 1, 0, 0, 1, 0])]) (N := (fun s w => s26_p3 K B1 B2 (s 0) (s 3) (s 5) (s 7) (s 10) (s 11) w)) (N' := (s26_p3_den K (fun s w => B1 [s 0, s 3, s 5, s 7, s 10] w) (fun s w => B2 [s 0, s 3, s 5, s 7, s 10, s 11] w))) (X := (fun i => (bif Nat.beq i 4 then (fun s w => s26_p2 K B1 (s 0) (s 3) (s 5) (s 7) (s 10) w) else (bif Nat.beq i 3 then (fun s w => s26_p2 K B1 (s 0) (s 3) (s 5) (s 7) (s 10) w) else (bif Nat.beq i 2 then (fun s w => s26_p1 K (s 5) w) else (fun _ _ => False)))))) (X' := (fun i => (bif Nat.beq i 4 then (s26_p2_den K (fun s w => B1 [s 0, s 3, s 5, s 7, s 10] w)) else (bif Nat.beq i 3 then (s26_p2_den K (fun s w => B1 [s 0, s 3, s 5, s 7, s 10] w)) else (bif Nat.beq i 2 then (s26_p1_den K) else (fun _ _ => False)))))) (R := s26_R K) (s := s) (w := w) (p := s26_p4 K B1 B2 (s 0) (s 3) (s 5) (s 7) (s 10) (s 11) w) (q := s26_p4_den K (fun s w => B1 [s 0, s 3, s 5, s 7, s 10] w) (fun s w => B2 [s 0, s 3, s 5, s 7, s 10, s 11] w) s w) (fun s w h => s26_p3_ok K B1 B2 s w @h) (fun i => (tr_bif (fun s w h => s26_p2_ok K B1 s w @h) (tr_bif (fun s w h => s26_p2_ok K B1 s w @h) (tr_bif (fun s w h => s26_p1_ok K s w @h) tr_id)))) (by kernel_rfl) (by kernel_rfl) @h
def s26_p5_F (K : Value → World → Prop) (B1 : List Value → World → Prop) (B2 : List Value → World → Prop) (l : List Value) (w : World) : Prop :=
  match l with
  | [t0, t3, t5, t7, t10, t11] => s26_p4 K B1 B2 t0 t3 t5 t7 t10 t11 w
  | _ => False
theorem s26_p5_Fe {K : Value → World → Prop} {B1 : List Value → World → Prop} {B2 : List Value → World → Prop} {t0 t3 t5 t7 t10 t11 : Value} {w : World} : s26_p5_F K B1 B2 [t0, t3, t5, t7, t10, t11] w = s26_p4 K B1 B2 t0 t3 t5 t7 t10 t11 w := by kernel_rfl
def s26_p5 (K : Value → World → Prop) (B1 : List Value → World → Prop) (t0 t3 t5 t7 t10 t11 : Value) (w : World) : Prop :=
  LoopL (s26_p5_F K B1) [t0, t3, t5, t7, t10, t11] w
def s26_p5_den (K : Value → World → Prop) (M1 : (Nat → Value) → World → Prop) : (Nat → Value) → World → Prop := fun s w => LoopP (fun M2 s w => s26_p4_den K M1 M2 s w) s w
theorem s26_p5_ok (K : Value → World → Prop) (B1 : List Value → World → Prop) (s : Nat → Value) (w : World) (h : s26_p5 K B1 (s 0) (s 3) (s 5) (s 7) (s 10) (s 11) w) : Tr (s26_p5_den K (fun s w => B1 [s 0, s 3, s 5, s 7, s 10] w) s w) :=
  tr_loop (G := fun N' s w => s26_p4_den K (fun s w => B1 [s 0, s 3, s 5, s 7, s 10] w) N' s w) (F := s26_p5_F K B1) (sel := fun s => [s 0, s 3, s 5, s 7, s 10, s 11]) (s := s) (w := w) (p := s26_p5 K B1 (s 0) (s 3) (s 5) (s 7) (s 10) (s 11) w) (q := s26_p5_den K (fun s w => B1 [s 0, s 3, s 5, s 7, s 10] w) s w) (fun B s w h => s26_p4_ok K B1 B s w @h) (by kernel_rfl) (by kernel_rfl) @h
def s26_p6 (K : Value → World → Prop) (B1 : List Value → World → Prop) (t0 t3 t5 t7 t10 : Value) (w : World) : Prop :=
  bdq [(.int .u8 0), (.int .i64 0), (.int .i64 0), (.int .i64 0), (.int .i64 0), (.int .i64 0), (.int .i64 0), (.slice none 0 0)] [(some (0, 1), (.int .u8 19)), (some (2, 1), t10)] (fun t77 w =>
  cl Tryz.prog 57 #[t77] (fun t78 w =>
  cdy Tryz.prog t0 #[t78] (fun t79 w =>
  apq 5 [(.int .u8 0)] 1 t5 t79 (fun t80 w =>
  boI .sub t7 (.int .i64 1) (fun t82 w =>
  s26_p5 K B1 t0 t3 t80 t7 t10 t82 w) w) w) w) w) w
def s26_p6_den (K : Value → World → Prop) (M1 : (Nat → Value) → World → Prop) : (Nat → Value) → World → Prop := denL Tryz.prog [(cd (Tryz.f26.body.getD .skip) [1, 1, 1, 1, 1, 1, 1, 1, 0, 1, 0, 0, 1, 0, 0, 0]), (cd (Tryz.f26.body.getD .skip) [1, 1, 1, 1, 1, 1, 1, 1, 0, 1, 0, 0, 1, 0, 0, 1, 0])] (s26_p5_den K M1) (fun i => (bif Nat.beq i 3 then (s26_p2_den K M1) else (bif Nat.beq i 2 then (s26_p1_den K) else (fun _ _ => False)))) (s26_R K)
theorem s26_p6_ok (K : Value → World → Prop) (B1 : List Value → World → Prop) (s : Nat → Value) (w : World) (h : s26_p6 K B1 (s 0) (s 3) (s 5) (s 7) (s 10) w) : Tr (s26_p6_den K (fun s w => B1 [s 0, s 3, s 5, s 7, s 10] w) s w) :=
  tr_simple (P := Tryz.prog) (codes := [(cd (Tryz.f26.body.getD .skip) [1, 1, 1, 1, 1, 1, 1, 1, 0, 1, 0, 0, 1, 0, 0, 0]), (cd (Tryz.f26.body.getD .skip) [1, 1, 1, 1, 1, 1, 1, 1, 0, 1, 0, 0, 1, 0, 0, 1, 0])]) (N := (fun s w => s26_p5 K B1 (s 0) (s 3) (s 5) (s 7) (s 10) (s 11) w)) (N' := (s26_p5_den K (fun s w => B1 [s 0, s 3, s 5, s 7, s 10] w))) (X := (fun i => (bif Nat.beq i 3 then (fun s w => s26_p2 K B1 (s 0) (s 3) (s 5) (s 7) (s 10) w) else (bif Nat.beq i 2 then (fun s w => s26_p1 K (s 5) w) else (fun _ _ => False))))) (X' := (fun i => (bif Nat.beq i 3 then (s26_p2_den K (fun s w => B1 [s 0, s 3, s 5, s 7, s 10] w)) else (bif Nat.beq i 2 then (s26_p1_den K) else (fun _ _ => False))))) (R := s26_R K) (s := s) (w := w) (p := s26_p6 K B1 (s 0) (s 3) (s 5) (s 7) (s 10) w) (q := s26_p6_den K (fun s w => B1 [s 0, s 3, s 5, s 7, s 10] w) s w) (fun s w h => s26_p5_ok K B1 s w @h) (fun i => (tr_bif (fun s w h => s26_p2_ok K B1 s w @h) (tr_bif (fun s w h => s26_p1_ok K s w @h) tr_id))) (by kernel_rfl) (by kernel_rfl) @h
def s26_p7 (K : Value → World → Prop) (B1 : List Value → World → Prop) (t0 t3 t5 t7 t10 : Value) (w : World) : Prop :=
  fd 0 t3 (fun t68 w =>
  ld1 t68 (fun t69 w =>
  lnS t69 (fun t70 w =>
  boI .leq t10 t70 (fun t71 w =>
  ifb t71
  (s26_p6 K B1 t0 t3 t5 t7 t10 w)
  (s26_p1 K t5 w)) w) w) w) w
def s26_p7_den (K : Value → World → Prop) (M1 : (Nat → Value) → World → Prop) : (Nat → Value) → World → Prop := denL Tryz.prog [(cd (Tryz.f26.body.getD .skip) [1, 1, 1, 1, 1, 1, 1, 1, 0, 1, 0, 0, 0, 0]), (cd (Tryz.f26.body.getD .skip) [1, 1, 1, 1, 1, 1, 1, 1, 0, 1, 0, 0, 0, 1])] (s26_p6_den K M1) (fun i => (bif Nat.beq i 2 then (s26_p1_den K) else (fun _ _ => False))) (s26_R K)
theorem s26_p7_ok (K : Value → World → Prop) (B1 : List Value → World → Prop) (s : Nat → Value) (w : World) (h : s26_p7 K B1 (s 0) (s 3) (s 5) (s 7) (s 10) w) : Tr (s26_p7_den K (fun s w => B1 [s 0, s 3, s 5, s 7, s 10] w) s w) :=
  tr_simple (P := Tryz.prog) (codes := [(cd (Tryz.f26.body.getD .skip) [1, 1, 1, 1, 1, 1, 1, 1, 0, 1, 0, 0, 0, 0]), (cd (Tryz.f26.body.getD .skip) [1, 1, 1, 1, 1, 1, 1, 1, 0, 1, 0, 0, 0, 1])]) (N := (fun s w => s26_p6 K B1 (s 0) (s 3) (s 5) (s 7) (s 10) w)) (N' := (s26_p6_den K (fun s w => B1 [s 0, s 3, s 5, s 7, s 10] w))) (X := (fun i => (bif Nat.beq i 2 then (fun s w => s26_p1 K (s 5) w) else (fun _ _ => False)))) (X' := (fun i => (bif Nat.beq i 2 then (s26_p1_den K) else (fun _ _ => False)))) (R := s26_R K) (s := s) (w := w) (p := s26_p7 K B1 (s 0) (s 3) (s 5) (s 7) (s 10) w) (q := s26_p7_den K (fun s w => B1 [s 0, s 3, s 5, s 7, s 10] w) s w) (fun s w h => s26_p6_ok K B1 s w @h) (fun i => (tr_bif (fun s w h => s26_p1_ok K s w @h) tr_id)) (by kernel_rfl) (by kernel_rfl) @h
def s26_p8_F (K : Value → World → Prop) (B1 : List Value → World → Prop) (l : List Value) (w : World) : Prop :=
  match l with
  | [t0, t3, t5, t7, t10] => s26_p7 K B1 t0 t3 t5 t7 t10 w
  | _ => False
theorem s26_p8_Fe {K : Value → World → Prop} {B1 : List Value → World → Prop} {t0 t3 t5 t7 t10 : Value} {w : World} : s26_p8_F K B1 [t0, t3, t5, t7, t10] w = s26_p7 K B1 t0 t3 t5 t7 t10 w := by kernel_rfl
def s26_p8 (K : Value → World → Prop) (t0 t3 t5 t7 t10 : Value) (w : World) : Prop :=
  LoopL (s26_p8_F K) [t0, t3, t5, t7, t10] w
def s26_p8_den (K : Value → World → Prop) : (Nat → Value) → World → Prop := fun s w => LoopP (fun M1 s w => s26_p7_den K M1 s w) s w
theorem s26_p8_ok (K : Value → World → Prop) (s : Nat → Value) (w : World) (h : s26_p8 K (s 0) (s 3) (s 5) (s 7) (s 10) w) : Tr (s26_p8_den K s w) :=
  tr_loop (G := fun N' s w => s26_p7_den K N' s w) (F := s26_p8_F K) (sel := fun s => [s 0, s 3, s 5, s 7, s 10]) (s := s) (w := w) (p := s26_p8 K (s 0) (s 3) (s 5) (s 7) (s 10) w) (q := s26_p8_den K s w) (fun B s w h => s26_p7_ok K B s w @h) (by kernel_rfl) (by kernel_rfl) @h
def s26_p9 (K : Value → World → Prop) (t0 t3 t5 t7 : Value) (w : World) : Prop :=
  s26_p8 K t0 t3 t5 t7 (.int .i64 0) w
def s26_p9_den (K : Value → World → Prop) : (Nat → Value) → World → Prop := denL Tryz.prog [(cd (Tryz.f26.body.getD .skip) [1, 1, 1, 1, 1, 1, 1, 1, 0, 0])] (s26_p8_den K) (fun i => (fun _ _ => False)) (s26_R K)
theorem s26_p9_ok (K : Value → World → Prop) (s : Nat → Value) (w : World) (h : s26_p9 K (s 0) (s 3) (s 5) (s 7) w) : Tr (s26_p9_den K s w) :=
  tr_simple (P := Tryz.prog) (codes := [(cd (Tryz.f26.body.getD .skip) [1, 1, 1, 1, 1, 1, 1, 1, 0, 0])]) (N := (fun s w => s26_p8 K (s 0) (s 3) (s 5) (s 7) (s 10) w)) (N' := (s26_p8_den K)) (X := (fun i => (fun _ _ => False))) (X' := (fun i => (fun _ _ => False))) (R := s26_R K) (s := s) (w := w) (p := s26_p9 K (s 0) (s 3) (s 5) (s 7) w) (q := s26_p9_den K s w) (fun s w h => s26_p8_ok K s w @h) (fun i => tr_id) (by kernel_rfl) (by kernel_rfl) @h
def s26_p10 (K : Value → World → Prop) (t0 t3 t4 t5 : Value) (w : World) : Prop :=
  cl Tryz.prog 45 #[t4] (fun t61 w =>
  exq t61 0 (fun t62 w =>
  exq t61 1 (fun t63 w =>
  nw 94 #[(.int .i64 0), (.int .u8 0), (.int .i64 0), (.int .i64 0), (.int .i64 0), (.int .i64 0), (.int .i64 0), (.slice none 0 0), (.int .i64 0), (.int .i64 0), (.int .i64 0), (.slice none 0 0), (.int .i64 0), (.int .i64 0), (.int .i64 0), (.int .i64 0), (.int .i64 0), (.int .i64 0), (.slice none 0 0), (.int .i64 0), (.int .i64 0), (.int .i64 0), (.int .i64 0), (.int .i64 0), (.int .i64 0), (.int .i64 0), (.int .i64 0), (.int .i64 0), (.int .i64 0), (.int .i64 0), (.int .i64 0), (.int .i64 0), (.int .i64 0), (.int .i64 0)] (fun t8 w =>
  stn 34 t8 t62 (fun w =>
  ifb t63
  (fd 6 t8 (fun t65 w =>
  ld1 t65 (fun t66 w =>
  s26_p9 K t0 t3 t5 t66 w) w) w)
  (s26_p9 K t0 t3 t5 (.int .i64 0) w)) w) w) w) w) w
def s26_p10_den (K : Value → World → Prop) : (Nat → Value) → World → Prop := denL Tryz.prog [(cd (Tryz.f26.body.getD .skip) [1, 1, 1, 1, 1, 1, 0]), (cd (Tryz.f26.body.getD .skip) [1, 1, 1, 1, 1, 1, 1, 0, 0]), (cd (Tryz.f26.body.getD .skip) [1, 1, 1, 1, 1, 1, 1, 0, 1, 0]), (cd (Tryz.f26.body.getD .skip) [1, 1, 1, 1, 1, 1, 1, 0, 1, 1])] (s26_p9_den K) (fun i => (fun _ _ => False)) (s26_R K)
theorem s26_p10_ok (K : Value → World → Prop) (s : Nat → Value) (w : World) (h : s26_p10 K (s 0) (s 3) (s 4) (s 5) w) : Tr (s26_p10_den K s w) :=
  tr_simple (P := Tryz.prog) (codes := [(cd (Tryz.f26.body.getD .skip) [1, 1, 1, 1, 1, 1, 0]), (cd (Tryz.f26.body.getD .skip) [1, 1, 1, 1, 1, 1, 1, 0, 0]), (cd (Tryz.f26.body.getD .skip) [1, 1, 1, 1, 1, 1, 1, 0, 1, 0]), (cd (Tryz.f26.body.getD .skip) [1, 1, 1, 1, 1, 1, 1, 0, 1, 1])]) (N := (fun s w => s26_p9 K (s 0) (s 3) (s 5) (s 7) w)) (N' := (s26_p9_den K)) (X := (fun i => (fun _ _ => False))) (X' := (fun i => (fun _ _ => False))) (R := s26_R K) (s := s) (w := w) (p := s26_p10 K (s 0) (s 3) (s 4) (s 5) w) (q := s26_p10_den K s w) (fun s w h => s26_p9_ok K s w @h) (fun i => tr_id) (by kernel_rfl) (by kernel_rfl) @h
def s26_p11 (K : Value → World → Prop) (B1 : List Value → World → Prop) (t0 t3 t4 t5 t6 : Value) (w : World) : Prop :=
  fd 10 t3 (fun t27 w =>
  ld1 t27 (fun t28 w =>
  boI .add t28 (.int .i64 1) (fun t29 w =>
  boI .leq t6 t29 (fun t30 w =>
  ifb t30
  (bdq [(.int .u8 0), (.int .i64 0), (.int .i64 0), (.int .i64 0), (.int .i64 0), (.int .i64 0), (.int .i64 0), (.slice none 0 0)] [(some (0, 1), (.int .u8 16)), (some (1, 1), t6)] (fun t36 w =>
  cl Tryz.prog 57 #[t36] (fun t37 w =>
  cdy Tryz.prog t0 #[t37] (fun t38 w =>
  apq 5 [(.int .u8 0)] 1 t5 t38 (fun t39 w =>
  bdq [(.int .u8 0), (.int .i64 0), (.int .i64 0), (.int .i64 0), (.int .i64 0), (.int .i64 0), (.int .i64 0), (.slice none 0 0)] [(some (0, 1), (.int .u8 24)), (some (1, 1), t6)] (fun t43 w =>
  cl Tryz.prog 57 #[t43] (fun t44 w =>
  cdy Tryz.prog t0 #[t44] (fun t45 w =>
  apq 5 [(.int .u8 0)] 1 t39 t45 (fun t46 w =>
  fd 12 t3 (fun t51 w =>
  ld1 t51 (fun t52 w =>
  boI .add t52 (.int .i64 2) (fun t53 w =>
  boI .rem t6 t53 (fun t54 w =>
  bdq [(.int .u8 0), (.int .i64 0), (.int .i64 0), (.int .i64 0), (.int .i64 0), (.int .i64 0), (.int .i64 0), (.slice none 0 0)] [(some (0, 1), (.int .u8 17)), (some (1, 1), t6), (some (6, 1), t54)] (fun t55 w =>
  cl Tryz.prog 57 #[t55] (fun t56 w =>
  cdy Tryz.prog t0 #[t56] (fun t57 w =>
  apq 5 [(.int .u8 0)] 1 t46 t57 (fun t58 w =>
  boI .add t6 (.int .i64 1) (fun t32 w =>
  B1 [t0, t3, t4, t58, t32] w) w) w) w) w) w) w) w) w) w) w) w) w) w) w) w) w) w)
  (s26_p10 K t0 t3 t4 t5 w)) w) w) w) w
def s26_p11_den (K : Value → World → Prop) (M1 : (Nat → Value) → World → Prop) : (Nat → Value) → World → Prop := denL Tryz.prog [(cd (Tryz.f26.body.getD .skip) [1, 1, 1, 1, 1, 0, 1, 0, 0, 0, 0]), (cd (Tryz.f26.body.getD .skip) [1, 1, 1, 1, 1, 0, 1, 0, 0, 0, 1]), (cd (Tryz.f26.body.getD .skip) [1, 1, 1, 1, 1, 0, 1, 0, 0, 1, 0]), (cd (Tryz.f26.body.getD .skip) [1, 1, 1, 1, 1, 0, 1, 0, 0, 1, 1])] M1 (fun i => (bif Nat.beq i 0 then (s26_p10_den K) else (fun _ _ => False))) (s26_R K)
theorem s26_p11_ok (K : Value → World → Prop) (B1 : List Value → World → Prop) (s : Nat → Value) (w : World) (h : s26_p11 K B1 (s 0) (s 3) (s 4) (s 5) (s 6) w) : Tr (s26_p11_den K (fun s w => B1 [s 0, s 3, s 4, s 5, s 6] w) s w) :=
  tr_simple (P := Tryz.prog) (codes := [(cd (Tryz.f26.body.getD .skip) [1, 1, 1, 1, 1, 0, 1, 0, 0, 0, 0]), (cd (Tryz.f26.body.getD .skip) [1, 1, 1, 1, 1, 0, 1, 0, 0, 0, 1]), (cd (Tryz.f26.body.getD .skip) [1, 1, 1, 1, 1, 0, 1, 0, 0, 1, 0]), (cd (Tryz.f26.body.getD .skip) [1, 1, 1, 1, 1, 0, 1, 0, 0, 1, 1])]) (N := (fun s w => B1 [s 0, s 3, s 4, s 5, s 6] w)) (N' := (fun s w => B1 [s 0, s 3, s 4, s 5, s 6] w)) (X := (fun i => (bif Nat.beq i 0 then (fun s w => s26_p10 K (s 0) (s 3) (s 4) (s 5) w) else (fun _ _ => False)))) (X' := (fun i => (bif Nat.beq i 0 then (s26_p10_den K) else (fun _ _ => False)))) (R := s26_R K) (s := s) (w := w) (p := s26_p11 K B1 (s 0) (s 3) (s 4) (s 5) (s 6) w) (q := s26_p11_den K (fun s w => B1 [s 0, s 3, s 4, s 5, s 6] w) s w) tr_id (fun i => (tr_bif (fun s w h => s26_p10_ok K s w @h) tr_id)) (by kernel_rfl) (by kernel_rfl) @h
def s26_p12_F (K : Value → World → Prop) (B1 : List Value → World → Prop) (l : List Value) (w : World) : Prop :=
  match l with
  | [t0, t3, t4, t5, t6] => s26_p11 K B1 t0 t3 t4 t5 t6 w
  | _ => False
theorem s26_p12_Fe {K : Value → World → Prop} {B1 : List Value → World → Prop} {t0 t3 t4 t5 t6 : Value} {w : World} : s26_p12_F K B1 [t0, t3, t4, t5, t6] w = s26_p11 K B1 t0 t3 t4 t5 t6 w := by kernel_rfl
def s26_p12 (K : Value → World → Prop) (t0 t3 t4 t5 t6 : Value) (w : World) : Prop :=
  LoopL (s26_p12_F K) [t0, t3, t4, t5, t6] w
def s26_p12_den (K : Value → World → Prop) : (Nat → Value) → World → Prop := fun s w => LoopP (fun M1 s w => s26_p11_den K M1 s w) s w
theorem s26_p12_ok (K : Value → World → Prop) (s : Nat → Value) (w : World) (h : s26_p12 K (s 0) (s 3) (s 4) (s 5) (s 6) w) : Tr (s26_p12_den K s w) :=
  tr_loop (G := fun N' s w => s26_p11_den K N' s w) (F := s26_p12_F K) (sel := fun s => [s 0, s 3, s 4, s 5, s 6]) (s := s) (w := w) (p := s26_p12 K (s 0) (s 3) (s 4) (s 5) (s 6) w) (q := s26_p12_den K s w) (fun B s w h => s26_p11_ok K B s w @h) (by kernel_rfl) (by kernel_rfl) @h
def s26_p13 (K : Value → World → Prop) (t0 : Value) (w : World) : Prop :=
  cl Tryz.prog 21 #[] (fun t12 w =>
  nw 34 #[(.slice none 0 0), (.slice none 0 0), (.int .i64 0), (.int .i64 0), (.int .i64 0), (.int .i64 0), (.int .i64 0), (.int .i64 0), (.int .i64 0), (.int .i64 0), (.int .i64 0), (.int .i64 0), (.int .i64 0), (.int .i64 0)] (fun t3 w =>
  stn 14 t3 t12 (fun w =>
  bdq [(.int .u8 0), (.int .i64 0), (.int .i64 0), (.int .i64 0), (.int .i64 0), (.int .i64 0), (.int .i64 0), (.slice none 0 0)] [(some (0, 1), (.int .u8 20))] (fun t14 w =>
  cl Tryz.prog 57 #[t14] (fun t15 w =>
  cdy Tryz.prog t0 #[t15] (fun t16 w =>
  bsq 5 [(.int .u8 0)] 0 [] (fun t17 w =>
  apq 5 [(.int .u8 0)] 1 t17 t16 (fun t19 w =>
  bdq [(.int .u8 0), (.int .i64 0), (.int .i64 0), (.int .i64 0), (.int .i64 0), (.int .i64 0), (.int .i64 0), (.slice none 0 0)] [(some (0, 1), (.int .u8 23))] (fun t22 w =>
  cl Tryz.prog 57 #[t22] (fun t23 w =>
  cdy Tryz.prog t0 #[t23] (fun t24 w =>
  apq 5 [(.int .u8 0)] 1 t19 t24 (fun t25 w =>
  s26_p12 K t0 t3 t16 t25 (.int .i64 0) w) w) w) w) w) w) w) w) w) w) w) w) w
def s26_p13_den (K : Value → World → Prop) : (Nat → Value) → World → Prop := denL Tryz.prog [(cd (Tryz.f26.body.getD .skip) [0]), (cd (Tryz.f26.body.getD .skip) [1, 0]), (cd (Tryz.f26.body.getD .skip) [1, 1, 0]), (cd (Tryz.f26.body.getD .skip) [1, 1, 1, 0]), (cd (Tryz.f26.body.getD .skip) [1, 1, 1, 1, 0]), (cd (Tryz.f26.body.getD .skip) [1, 1, 1, 1, 1, 0, 0])] (s26_p12_den K) (fun i => (fun _ _ => False)) (s26_R K)
theorem s26_p13_ok (K : Value → World → Prop) (s : Nat → Value) (w : World) (h : s26_p13 K (s 0) w) : Tr (s26_p13_den K s w) :=
  tr_simple (P := Tryz.prog) (codes := [(cd (Tryz.f26.body.getD .skip) [0]), (cd (Tryz.f26.body.getD .skip) [1, 0]), (cd (Tryz.f26.body.getD .skip) [1, 1, 0]), (cd (Tryz.f26.body.getD .skip) [1, 1, 1, 0]), (cd (Tryz.f26.body.getD .skip) [1, 1, 1, 1, 0]), (cd (Tryz.f26.body.getD .skip) [1, 1, 1, 1, 1, 0, 0])]) (N := (fun s w => s26_p12 K (s 0) (s 3) (s 4) (s 5) (s 6) w)) (N' := (s26_p12_den K)) (X := (fun i => (fun _ _ => False))) (X' := (fun i => (fun _ _ => False))) (R := s26_R K) (s := s) (w := w) (p := s26_p13 K (s 0) w) (q := s26_p13_den K s w) (fun s w h => s26_p12_ok K s w @h) (fun i => tr_id) (by kernel_rfl) (by kernel_rfl) @h
/-- the call, from the text -/
theorem c26 (t0 : Value) {K : Value → World → Prop} {w : World} (h : s26_p13 K t0 w) : cl Tryz.prog 26 #[t0] K w :=
  calls_of_tr (c := (Tryz.f26.body.getD .skip)) (fn := Tryz.f26) (q := s26_p13_den K (st0 #[t0]) w) Tryz.func26 (by kernel_rfl) (by kernel_rfl) (Nat.le_of_ble_eq_true (by kernel_rfl)) (by kernel_rfl) (by kernel_rfl) (s26_p13_ok K (st0 #[t0]) w @h)

end Go.Proofs.Qxb6500896aGreat
