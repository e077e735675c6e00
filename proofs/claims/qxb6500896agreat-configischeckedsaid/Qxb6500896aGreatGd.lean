import Derived.Test.Qxb6500896aGreatProg
import Derived.Test.Qxb6500896aGreatShMix3
namespace Go.Proofs.Qxb6500896aGreat
open Go.Sh Go.RowKit
set_option linter.unusedVariables false
set_option maxRecDepth 100000

/-! ### function 117 : (*e2e.engine.Engine).image -/
def s117_R (K : Value → World → Prop) (s : Nat → Value) (w : World) : Prop := retv Tryz.prog s Tryz.f117.results.toList (fun vs => K (pack vs) w) w
def s117_p1 (K : Value → World → Prop) (t2 t3 : Value) (w : World) : Prop :=
  ldn 5 t3 (fun t78 w =>
  stn 5 t2 t78 (fun w =>
  ldn 5 t2 (fun r0 _ =>
  K r0 w) w) w) w
def s117_p1_den (K : Value → World → Prop) : (Nat → Value) → World → Prop := denL Tryz.prog [(cd (Tryz.f117.body.getD .skip) [1, 1, 1, 1, 1, 1, 0]), (cd (Tryz.f117.body.getD .skip) [1, 1, 1, 1, 1, 1, 1])] (fun _ _ => False) (fun i => (fun _ _ => False)) (s117_R K)
theorem s117_p1_ok (K : Value → World → Prop) (s : Nat → Value) (w : World) (h : s117_p1 K (s 2) (s 3) w) : Tr (s117_p1_den K s w) :=
  tr_simple (P := Tryz.prog) (codes := [(cd (Tryz.f117.body.getD .skip) [1, 1, 1, 1, 1, 1, 0]), (cd (Tryz.f117.body.getD .skip) [1, 1, 1, 1, 1, 1, 1])]) (N := (fun _ _ => False)) (N' := (fun _ _ => False)) (X := (fun i => (fun _ _ => False))) (X' := (fun i => (fun _ _ => False))) (R := s117_R K) (s := s) (w := w) (p := s117_p1 K (s 2) (s 3) w) (q := s117_p1_den K s w) tr_id (fun i => tr_id) (by kernel_rfl) (by kernel_rfl) @h
def s117_p2 (K : Value → World → Prop) (B1 : List Value → World → Prop) (t0 t2 t3 t63 t64 : Value) (w : World) : Prop :=
  boI .add t64 (.int .i64 1) (fun t77 w =>
  B1 [t0, t2, t3, t63, t77] w) w
def s117_p2_den (K : Value → World → Prop) (M1 : (Nat → Value) → World → Prop) : (Nat → Value) → World → Prop := denL Tryz.prog [(cd (Tryz.f117.body.getD .skip) [1, 1, 1, 1, 1, 0, 1, 0, 0, 1, 1, 1])] M1 (fun i => (bif Nat.beq i 2 then (s117_p1_den K) else (fun _ _ => False))) (s117_R K)
theorem s117_p2_ok (K : Value → World → Prop) (B1 : List Value → World → Prop) (s : Nat → Value) (w : World) (h : s117_p2 K B1 (s 0) (s 2) (s 3) (s 63) (s 64) w) : Tr (s117_p2_den K (fun s w => B1 [s 0, s 2, s 3, s 63, s 64] w) s w) :=
  tr_simple (P := Tryz.prog) (codes := [(cd (Tryz.f117.body.getD .skip) [1, 1, 1, 1, 1, 0, 1, 0, 0, 1, 1, 1])]) (N := (fun s w => B1 [s 0, s 2, s 3, s 63, s 64] w)) (N' := (fun s w => B1 [s 0, s 2, s 3, s 63, s 64] w)) (X := (fun i => (bif Nat.beq i 2 then (fun s w => s117_p1 K (s 2) (s 3) w) else (fun _ _ => False)))) (X' := (fun i => (bif Nat.beq i 2 then (s117_p1_den K) else (fun _ _ => False)))) (R := s117_R K) (s := s) (w := w) (p := s117_p2 K B1 (s 0) (s 2) (s 3) (s 63) (s 64) w) (q := s117_p2_den K (fun s w => B1 [s 0, s 2, s 3, s 63, s 64] w) s w) tr_id (fun i => (tr_bif (fun s w h => s117_p1_ok K s w @h) tr_id)) (by kernel_rfl) (by kernel_rfl) @h
def s117_p3_d (K : Value → World → Prop) (B1 : List Value → World → Prop) (t0 t2 t3 t7 t63 t64 : Value) (w0 w : World) : Prop :=
  fd 4 t3 (fun t67 _ =>
  ld1 t67 (fun t68 _ =>
  nck t0 (fun t71 _ =>
  fd 16 t71 (fun t72 _ =>
  ld1 t72 (fun t73 _ =>
  ixs 1 t68 t7 (fun t76 _ =>
  cl Tryz.prog 164 #[t73, t7] (fun t75 w =>
  Below w0.heap.size w0 w ∧
  st1 t76 t75 (fun w =>
  s117_p2 K B1 t0 t2 t3 t63 t64 w) w) w) w0) w0) w0) w0) w0) w0
def s117_p3 (K : Value → World → Prop) (B1 : List Value → World → Prop) (t0 t2 t3 t7 t63 t64 : Value) (w : World) : Prop := s117_p3_d K B1 t0 t2 t3 t7 t63 t64 (drw w) (drw w)
def s117_p3_den (K : Value → World → Prop) (M1 : (Nat → Value) → World → Prop) : (Nat → Value) → World → Prop := denL Tryz.prog [(cd (Tryz.f117.body.getD .skip) [1, 1, 1, 1, 1, 0, 1, 0, 0, 1, 1, 0, 0, 1])] (s117_p2_den K M1) (fun i => (bif Nat.beq i 3 then (s117_p2_den K M1) else (bif Nat.beq i 2 then (s117_p1_den K) else (fun _ _ => False)))) (s117_R K)
theorem s117_p3_ok (K : Value → World → Prop) (B1 : List Value → World → Prop) (s : Nat → Value) (w : World) (h : s117_p3 K B1 (s 0) (s 2) (s 3) (s 7) (s 63) (s 64) w) : Tr (s117_p3_den K (fun s w => B1 [s 0, s 2, s 3, s 63, s 64] w) s w) :=
  tr_draw (P := Tryz.prog) (ops := (ro (cd (Tryz.f117.body.getD .skip) [1, 1, 1, 1, 1, 0, 1, 0, 0, 1, 1, 0, 0, 1]))) (ms := [0, 1, 0, 0, 8, 24, 56, 0, 248, 511, 1023]) (cs := [0, 1, 2, 3, 4, 5, 6, 7, 9]) (N := (fun s w => s117_p2 K B1 (s 0) (s 2) (s 3) (s 63) (s 64) w)) (N' := (s117_p2_den K (fun s w => B1 [s 0, s 2, s 3, s 63, s 64] w))) (s := s) (w := w) (p := s117_p3 K B1 (s 0) (s 2) (s 3) (s 7) (s 63) (s 64) w) (q := s117_p3_den K (fun s w => B1 [s 0, s 2, s 3, s 63, s 64] w) s w) (by kernel_rfl) (by kernel_rfl) (fun s w h => s117_p2_ok K B1 s w @h) (by kernel_rfl) (by kernel_rfl) @h
def s117_p4 (K : Value → World → Prop) (B1 : List Value → World → Prop) (t0 t2 t3 t63 t64 : Value) (w : World) : Prop :=
  s117_p3 K B1 t0 t2 t3 t64 t63 t64 w
def s117_p4_den (K : Value → World → Prop) (M1 : (Nat → Value) → World → Prop) : (Nat → Value) → World → Prop := denL Tryz.prog [(cd (Tryz.f117.body.getD .skip) [1, 1, 1, 1, 1, 0, 1, 0, 0, 1, 1, 0, 0, 0])] (s117_p3_den K M1) (fun i => (bif Nat.beq i 3 then (s117_p2_den K M1) else (bif Nat.beq i 2 then (s117_p1_den K) else (fun _ _ => False)))) (s117_R K)
theorem s117_p4_ok (K : Value → World → Prop) (B1 : List Value → World → Prop) (s : Nat → Value) (w : World) (h : s117_p4 K B1 (s 0) (s 2) (s 3) (s 63) (s 64) w) : Tr (s117_p4_den K (fun s w => B1 [s 0, s 2, s 3, s 63, s 64] w) s w) :=
  tr_simple (P := Tryz.prog) (codes := [(cd (Tryz.f117.body.getD .skip) [1, 1, 1, 1, 1, 0, 1, 0, 0, 1, 1, 0, 0, 0])]) (N := (fun s w => s117_p3 K B1 (s 0) (s 2) (s 3) (s 7) (s 63) (s 64) w)) (N' := (s117_p3_den K (fun s w => B1 [s 0, s 2, s 3, s 63, s 64] w))) (X := (fun i => (bif Nat.beq i 3 then (fun s w => s117_p2 K B1 (s 0) (s 2) (s 3) (s 63) (s 64) w) else (bif Nat.beq i 2 then (fun s w => s117_p1 K (s 2) (s 3) w) else (fun _ _ => False))))) (X' := (fun i => (bif Nat.beq i 3 then (s117_p2_den K (fun s w => B1 [s 0, s 2, s 3, s 63, s 64] w)) else (bif Nat.beq i 2 then (s117_p1_den K) else (fun _ _ => False))))) (R := s117_R K) (s := s) (w := w) (p := s117_p4 K B1 (s 0) (s 2) (s 3) (s 63) (s 64) w) (q := s117_p4_den K (fun s w => B1 [s 0, s 2, s 3, s 63, s 64] w) s w) (fun s w h => s117_p3_ok K B1 s w @h) (fun i => (tr_bif (fun s w h => s117_p2_ok K B1 s w @h) (tr_bif (fun s w h => s117_p1_ok K s w @h) tr_id))) (by kernel_rfl) (by kernel_rfl) @h
def s117_p5 (K : Value → World → Prop) (B1 : List Value → World → Prop) (t0 t2 t3 t63 t64 : Value) (w : World) : Prop :=
  boI .lss t64 t63 (fun t65 w =>
  ifb t65
  (s117_p4 K B1 t0 t2 t3 t63 t64 w)
  (s117_p1 K t2 t3 w)) w
def s117_p5_den (K : Value → World → Prop) (M1 : (Nat → Value) → World → Prop) : (Nat → Value) → World → Prop := denL Tryz.prog [(cd (Tryz.f117.body.getD .skip) [1, 1, 1, 1, 1, 0, 1, 0, 0, 0]), (cd (Tryz.f117.body.getD .skip) [1, 1, 1, 1, 1, 0, 1, 0, 0, 1, 0])] (s117_p4_den K M1) (fun i => (bif Nat.beq i 2 then (s117_p1_den K) else (fun _ _ => False))) (s117_R K)
theorem s117_p5_ok (K : Value → World → Prop) (B1 : List Value → World → Prop) (s : Nat → Value) (w : World) (h : s117_p5 K B1 (s 0) (s 2) (s 3) (s 63) (s 64) w) : Tr (s117_p5_den K (fun s w => B1 [s 0, s 2, s 3, s 63, s 64] w) s w) :=
  tr_simple (P := Tryz.prog) (codes := [(cd (Tryz.f117.body.getD .skip) [1, 1, 1, 1, 1, 0, 1, 0, 0, 0]), (cd (Tryz.f117.body.getD .skip) [1, 1, 1, 1, 1, 0, 1, 0, 0, 1, 0])]) (N := (fun s w => s117_p4 K B1 (s 0) (s 2) (s 3) (s 63) (s 64) w)) (N' := (s117_p4_den K (fun s w => B1 [s 0, s 2, s 3, s 63, s 64] w))) (X := (fun i => (bif Nat.beq i 2 then (fun s w => s117_p1 K (s 2) (s 3) w) else (fun _ _ => False)))) (X' := (fun i => (bif Nat.beq i 2 then (s117_p1_den K) else (fun _ _ => False)))) (R := s117_R K) (s := s) (w := w) (p := s117_p5 K B1 (s 0) (s 2) (s 3) (s 63) (s 64) w) (q := s117_p5_den K (fun s w => B1 [s 0, s 2, s 3, s 63, s 64] w) s w) (fun s w h => s117_p4_ok K B1 s w @h) (fun i => (tr_bif (fun s w h => s117_p1_ok K s w @h) tr_id)) (by kernel_rfl) (by kernel_rfl) @h
def s117_p6_F (K : Value → World → Prop) (B1 : List Value → World → Prop) (l : List Value) (w : World) : Prop :=
  match l with
  | [t0, t2, t3, t63, t64] => s117_p5 K B1 t0 t2 t3 t63 t64 w
  | _ => False
theorem s117_p6_Fe {K : Value → World → Prop} {B1 : List Value → World → Prop} {t0 t2 t3 t63 t64 : Value} {w : World} : s117_p6_F K B1 [t0, t2, t3, t63, t64] w = s117_p5 K B1 t0 t2 t3 t63 t64 w := by kernel_rfl
def s117_p6 (K : Value → World → Prop) (t0 t2 t3 t63 t64 : Value) (w : World) : Prop :=
  LoopL (s117_p6_F K) [t0, t2, t3, t63, t64] w
def s117_p6_den (K : Value → World → Prop) : (Nat → Value) → World → Prop := fun s w => LoopP (fun M1 s w => s117_p5_den K M1 s w) s w
theorem s117_p6_ok (K : Value → World → Prop) (s : Nat → Value) (w : World) (h : s117_p6 K (s 0) (s 2) (s 3) (s 63) (s 64) w) : Tr (s117_p6_den K s w) :=
  tr_loop (G := fun N' s w => s117_p5_den K N' s w) (F := s117_p6_F K) (sel := fun s => [s 0, s 2, s 3, s 63, s 64]) (s := s) (w := w) (p := s117_p6 K (s 0) (s 2) (s 3) (s 63) (s 64) w) (q := s117_p6_den K s w) (fun B s w h => s117_p5_ok K B s w @h) (by kernel_rfl) (by kernel_rfl) @h
def s117_p7 (K : Value → World → Prop) (t0 t2 t3 : Value) (w : World) : Prop :=
  nck t0 (fun t54 w =>
  fd 0 t54 (fun t55 w =>
  fd 0 t55 (fun t56 w =>
  ld1 t56 (fun t57 w =>
  lnS t57 (fun t58 w =>
  mks 79 [(.slice none 0 0)] 24 t58 t58 (fun t59 w =>
  fd 4 t3 (fun t60 w =>
  st1 t60 t59 (fun w =>
  fd 4 t3 (fun t61 w =>
  ld1 t61 (fun t62 w =>
  lnS t62 (fun t63 w =>
  s117_p6 K t0 t2 t3 t63 (.int .i64 0) w) w) w) w) w) w) w) w) w) w) w) w
def s117_p7_den (K : Value → World → Prop) : (Nat → Value) → World → Prop := denL Tryz.prog [(cd (Tryz.f117.body.getD .skip) [1, 1, 1, 1, 0]), (cd (Tryz.f117.body.getD .skip) [1, 1, 1, 1, 1, 0, 0])] (s117_p6_den K) (fun i => (fun _ _ => False)) (s117_R K)
theorem s117_p7_ok (K : Value → World → Prop) (s : Nat → Value) (w : World) (h : s117_p7 K (s 0) (s 2) (s 3) w) : Tr (s117_p7_den K s w) :=
  tr_simple (P := Tryz.prog) (codes := [(cd (Tryz.f117.body.getD .skip) [1, 1, 1, 1, 0]), (cd (Tryz.f117.body.getD .skip) [1, 1, 1, 1, 1, 0, 0])]) (N := (fun s w => s117_p6 K (s 0) (s 2) (s 3) (s 63) (s 64) w)) (N' := (s117_p6_den K)) (X := (fun i => (fun _ _ => False))) (X' := (fun i => (fun _ _ => False))) (R := s117_R K) (s := s) (w := w) (p := s117_p7 K (s 0) (s 2) (s 3) w) (q := s117_p7_den K s w) (fun s w h => s117_p6_ok K s w @h) (fun i => tr_id) (by kernel_rfl) (by kernel_rfl) @h
def s117_p8 (K : Value → World → Prop) (B1 : List Value → World → Prop) (t0 t2 t3 t4 : Value) (w : World) : Prop :=
  nck t0 (fun t31 w =>
  fd 15 t31 (fun t32 w =>
  ld1 t32 (fun t33 w =>
  cl Tryz.prog 162 #[t33] (fun t34 w =>
  boI .leq t4 t34 (fun t35 w =>
  ifb t35
  (nck t0 (fun t40 w =>
  fd 15 t40 (fun t41 w =>
  ld1 t41 (fun t42 w =>
  cl Tryz.prog 163 #[t42, t4] (fun t44 w =>
  exq t44 0 (fun t45 w =>
  exq t44 1 (fun t46 w =>
  nw 85 #[(.int .i64 0), (.int .i64 0), (.int .i64 0), (.int .i64 0), (.int .i64 0), (.int .i64 0), (.slice none 0 0)] (fun t5 w =>
  stn 7 t5 t45 (fun w =>
  fd 3 t3 (fun t47 w =>
  ld1 t47 (fun t48 w =>
  ldn 7 t5 (fun t49 w =>
  bsq 85 [(.int .i64 0), (.int .i64 0), (.int .i64 0), (.int .i64 0), (.int .i64 0), (.int .i64 0), (.slice none 0 0)] 1 [(some (0, 7), t49)] (fun t50 w =>
  apq 85 [(.int .i64 0), (.int .i64 0), (.int .i64 0), (.int .i64 0), (.int .i64 0), (.int .i64 0), (.slice none 0 0)] 72 t48 t50 (fun t51 w =>
  fd 3 t3 (fun t52 w =>
  st1 t52 t51 (fun w =>
  boI .add t4 (.int .i64 1) (fun t37 w =>
  B1 [t0, t2, t3, t37] w) w) w) w) w) w) w) w) w) w) w) w) w) w) w) w) w)
  (s117_p7 K t0 t2 t3 w)) w) w) w) w) w
def s117_p8_den (K : Value → World → Prop) (M1 : (Nat → Value) → World → Prop) : (Nat → Value) → World → Prop := denL Tryz.prog [(cd (Tryz.f117.body.getD .skip) [1, 1, 1, 0, 1, 0, 0, 0, 0]), (cd (Tryz.f117.body.getD .skip) [1, 1, 1, 0, 1, 0, 0, 0, 1]), (cd (Tryz.f117.body.getD .skip) [1, 1, 1, 0, 1, 0, 0, 1, 0]), (cd (Tryz.f117.body.getD .skip) [1, 1, 1, 0, 1, 0, 0, 1, 1])] M1 (fun i => (bif Nat.beq i 0 then (s117_p7_den K) else (fun _ _ => False))) (s117_R K)
theorem s117_p8_ok (K : Value → World → Prop) (B1 : List Value → World → Prop) (s : Nat → Value) (w : World) (h : s117_p8 K B1 (s 0) (s 2) (s 3) (s 4) w) : Tr (s117_p8_den K (fun s w => B1 [s 0, s 2, s 3, s 4] w) s w) :=
  tr_simple (P := Tryz.prog) (codes := [(cd (Tryz.f117.body.getD .skip) [1, 1, 1, 0, 1, 0, 0, 0, 0]), (cd (Tryz.f117.body.getD .skip) [1, 1, 1, 0, 1, 0, 0, 0, 1]), (cd (Tryz.f117.body.getD .skip) [1, 1, 1, 0, 1, 0, 0, 1, 0]), (cd (Tryz.f117.body.getD .skip) [1, 1, 1, 0, 1, 0, 0, 1, 1])]) (N := (fun s w => B1 [s 0, s 2, s 3, s 4] w)) (N' := (fun s w => B1 [s 0, s 2, s 3, s 4] w)) (X := (fun i => (bif Nat.beq i 0 then (fun s w => s117_p7 K (s 0) (s 2) (s 3) w) else (fun _ _ => False)))) (X' := (fun i => (bif Nat.beq i 0 then (s117_p7_den K) else (fun _ _ => False)))) (R := s117_R K) (s := s) (w := w) (p := s117_p8 K B1 (s 0) (s 2) (s 3) (s 4) w) (q := s117_p8_den K (fun s w => B1 [s 0, s 2, s 3, s 4] w) s w) tr_id (fun i => (tr_bif (fun s w h => s117_p7_ok K s w @h) tr_id)) (by kernel_rfl) (by kernel_rfl) @h
def s117_p9_F (K : Value → World → Prop) (B1 : List Value → World → Prop) (l : List Value) (w : World) : Prop :=
  match l with
  | [t0, t2, t3, t4] => s117_p8 K B1 t0 t2 t3 t4 w
  | _ => False
theorem s117_p9_Fe {K : Value → World → Prop} {B1 : List Value → World → Prop} {t0 t2 t3 t4 : Value} {w : World} : s117_p9_F K B1 [t0, t2, t3, t4] w = s117_p8 K B1 t0 t2 t3 t4 w := by kernel_rfl
def s117_p9 (K : Value → World → Prop) (t0 t2 t3 t4 : Value) (w : World) : Prop :=
  LoopL (s117_p9_F K) [t0, t2, t3, t4] w
def s117_p9_den (K : Value → World → Prop) : (Nat → Value) → World → Prop := fun s w => LoopP (fun M1 s w => s117_p8_den K M1 s w) s w
theorem s117_p9_ok (K : Value → World → Prop) (s : Nat → Value) (w : World) (h : s117_p9 K (s 0) (s 2) (s 3) (s 4) w) : Tr (s117_p9_den K s w) :=
  tr_loop (G := fun N' s w => s117_p8_den K N' s w) (F := s117_p9_F K) (sel := fun s => [s 0, s 2, s 3, s 4]) (s := s) (w := w) (p := s117_p9 K (s 0) (s 2) (s 3) (s 4) w) (q := s117_p9_den K s w) (fun B s w h => s117_p8_ok K B s w @h) (by kernel_rfl) (by kernel_rfl) @h
def s117_p10 (K : Value → World → Prop) (t0 t2 t3 : Value) (w : World) : Prop :=
  nck t0 (fun t23 w =>
  fd 15 t23 (fun t24 w =>
  ld1 t24 (fun t25 w =>
  cl Tryz.prog 162 #[t25] (fun t26 w =>
  mks 85 [(.int .i64 0), (.int .i64 0), (.int .i64 0), (.int .i64 0), (.int .i64 0), (.int .i64 0), (.slice none 0 0)] 72 (.int .i64 0) t26 (fun t27 w =>
  fd 3 t3 (fun t28 w =>
  st1 t28 t27 (fun w =>
  s117_p9 K t0 t2 t3 (.int .i64 1) w) w) w) w) w) w) w) w
def s117_p10_den (K : Value → World → Prop) : (Nat → Value) → World → Prop := denL Tryz.prog [(cd (Tryz.f117.body.getD .skip) [1, 1, 0]), (cd (Tryz.f117.body.getD .skip) [1, 1, 1, 0, 0])] (s117_p9_den K) (fun i => (fun _ _ => False)) (s117_R K)
theorem s117_p10_ok (K : Value → World → Prop) (s : Nat → Value) (w : World) (h : s117_p10 K (s 0) (s 2) (s 3) w) : Tr (s117_p10_den K s w) :=
  tr_simple (P := Tryz.prog) (codes := [(cd (Tryz.f117.body.getD .skip) [1, 1, 0]), (cd (Tryz.f117.body.getD .skip) [1, 1, 1, 0, 0])]) (N := (fun s w => s117_p9 K (s 0) (s 2) (s 3) (s 4) w)) (N' := (s117_p9_den K)) (X := (fun i => (fun _ _ => False))) (X' := (fun i => (fun _ _ => False))) (R := s117_R K) (s := s) (w := w) (p := s117_p10 K (s 0) (s 2) (s 3) w) (q := s117_p10_den K s w) (fun s w h => s117_p9_ok K s w @h) (fun i => tr_id) (by kernel_rfl) (by kernel_rfl) @h
def s117_p11_d (K : Value → World → Prop) (t0 t2 : Value) (w0 w : World) : Prop :=
  nck t0 (fun t9 _ =>
  fd 0 t9 (fun t10 _ =>
  ldn 14 t10 (fun t11 _ =>
  nck t0 (fun t14 _ =>
  fd 18 t14 (fun t15 _ =>
  ld1 t15 (fun t16 _ =>
  nck t0 (fun t18 _ =>
  fd 14 t18 (fun t19 _ =>
  ld1 t19 (fun t20 _ =>
  (cl Tryz.prog 158 #[t11] (fun t12 w =>
  Below w0.heap.size w0 w ∧
  (bdq [(.int .i64 0), (.int .i64 0), (.int .i64 0), (.slice none 0 0), (.slice none 0 0)] [(some (0, 1), t12), (some (1, 1), t16), (some (2, 1), t20)] (fun t21 w =>
  nw 152 #[(.int .i64 0), (.int .i64 0), (.int .i64 0), (.slice none 0 0), (.slice none 0 0)] (fun t3 w =>
  Below w0.heap.size w0 w ∧
  stn 5 t3 t21 (fun w =>
  s117_p10 K t0 t2 t3 w) w) w) w) ∧
  (nw 152 #[(.int .i64 0), (.int .i64 0), (.int .i64 0), (.slice none 0 0), (.slice none 0 0)] (fun t3_2 w =>
  Below w0.heap.size w0 w ∧
  bdq [(.int .i64 0), (.int .i64 0), (.int .i64 0), (.slice none 0 0), (.slice none 0 0)] [(some (0, 1), t12), (some (1, 1), t16), (some (2, 1), t20)] (fun t21_2 w =>
  stn 5 t3_2 t21_2 (fun w =>
  s117_p10 K t0 t2 t3_2 w) w) w) w)) w) ∧
  (nw 152 #[(.int .i64 0), (.int .i64 0), (.int .i64 0), (.slice none 0 0), (.slice none 0 0)] (fun t3_3 w =>
  Below w0.heap.size w0 w ∧
  cl Tryz.prog 158 #[t11] (fun t12_2 w =>
  Below w0.heap.size w0 w ∧
  bdq [(.int .i64 0), (.int .i64 0), (.int .i64 0), (.slice none 0 0), (.slice none 0 0)] [(some (0, 1), t12_2), (some (1, 1), t16), (some (2, 1), t20)] (fun t21_3 w =>
  stn 5 t3_3 t21_3 (fun w =>
  s117_p10 K t0 t2 t3_3 w) w) w) w) w)) w0) w0) w0) w0) w0) w0) w0) w0) w0
def s117_p11 (K : Value → World → Prop) (t0 t2 : Value) (w : World) : Prop := s117_p11_d K t0 t2 (drw w) (drw w)
def s117_p11_den (K : Value → World → Prop) : (Nat → Value) → World → Prop := denL Tryz.prog [(cd (Tryz.f117.body.getD .skip) [1, 0])] (s117_p10_den K) (fun i => (fun _ _ => False)) (s117_R K)
theorem s117_p11_ok (K : Value → World → Prop) (s : Nat → Value) (w : World) (h : s117_p11 K (s 0) (s 2) w) : Tr (s117_p11_den K s w) :=
  tr_draw (P := Tryz.prog) (ops := (ro (cd (Tryz.f117.body.getD .skip) [1, 0]))) (ms := [0, 1, 3, 7, 15, 0, 32, 96, 224, 0, 512, 1536, 3584, 8191, 0, 32767]) (cs := [0, 1, 2, 3, 5, 6, 7, 8, 9, 10, 11, 12]) (N := (fun s w => s117_p10 K (s 0) (s 2) (s 3) w)) (N' := (s117_p10_den K)) (s := s) (w := w) (p := s117_p11 K (s 0) (s 2) w) (q := s117_p11_den K s w) (by kernel_rfl) (by kernel_rfl) (fun s w h => s117_p10_ok K s w @h) (by kernel_rfl) (by kernel_rfl) @h
def s117_p12 (K : Value → World → Prop) (t0 : Value) (w : World) : Prop :=
  nw 152 #[(.int .i64 0), (.int .i64 0), (.int .i64 0), (.slice none 0 0), (.slice none 0 0)] (fun t2 w =>
  s117_p11 K t0 t2 w) w
def s117_p12_den (K : Value → World → Prop) : (Nat → Value) → World → Prop := denL Tryz.prog [(cd (Tryz.f117.body.getD .skip) [0])] (s117_p11_den K) (fun i => (fun _ _ => False)) (s117_R K)
theorem s117_p12_ok (K : Value → World → Prop) (s : Nat → Value) (w : World) (h : s117_p12 K (s 0) w) : Tr (s117_p12_den K s w) :=
  tr_simple (P := Tryz.prog) (codes := [(cd (Tryz.f117.body.getD .skip) [0])]) (N := (fun s w => s117_p11 K (s 0) (s 2) w)) (N' := (s117_p11_den K)) (X := (fun i => (fun _ _ => False))) (X' := (fun i => (fun _ _ => False))) (R := s117_R K) (s := s) (w := w) (p := s117_p12 K (s 0) w) (q := s117_p12_den K s w) (fun s w h => s117_p11_ok K s w @h) (fun i => tr_id) (by kernel_rfl) (by kernel_rfl) @h
/-- the call, from the text -/
theorem c117 (t0 : Value) {K : Value → World → Prop} {w : World} (h : s117_p12 K t0 w) : cl Tryz.prog 117 #[t0] K w :=
  calls_of_tr (c := (Tryz.f117.body.getD .skip)) (fn := Tryz.f117) (q := s117_p12_den K (st0 #[t0]) w) Tryz.func117 (by kernel_rfl) (by kernel_rfl) (Nat.le_of_ble_eq_true (by kernel_rfl)) (by kernel_rfl) (by kernel_rfl) (s117_p12_ok K (st0 #[t0]) w @h)

/-! ### function 189 : e2e.engine.encodeImage -/
def s189_R (K : Value → World → Prop) (s : Nat → Value) (w : World) : Prop := retv Tryz.prog s Tryz.f189.results.toList (fun vs => K (pack vs) w) w
def s189_p1 (K : Value → World → Prop) (t3 : Value) (w : World) : Prop :=
  K t3 w
def s189_p1_den (K : Value → World → Prop) : (Nat → Value) → World → Prop := denL Tryz.prog [(cd (Tryz.f189.body.getD .skip) [1, 1, 1, 1, 1, 1, 1, 1, 1, 0]), (cd (Tryz.f189.body.getD .skip) [1, 1, 1, 1, 1, 1, 1, 1, 1, 1])] (fun _ _ => False) (fun i => (fun _ _ => False)) (s189_R K)
theorem s189_p1_ok (K : Value → World → Prop) (s : Nat → Value) (w : World) (h : s189_p1 K (s 3) w) : Tr (s189_p1_den K s w) :=
  tr_simple (P := Tryz.prog) (codes := [(cd (Tryz.f189.body.getD .skip) [1, 1, 1, 1, 1, 1, 1, 1, 1, 0]), (cd (Tryz.f189.body.getD .skip) [1, 1, 1, 1, 1, 1, 1, 1, 1, 1])]) (N := (fun _ _ => False)) (N' := (fun _ _ => False)) (X := (fun i => (fun _ _ => False))) (X' := (fun i => (fun _ _ => False))) (R := s189_R K) (s := s) (w := w) (p := s189_p1 K (s 3) w) (q := s189_p1_den K s w) tr_id (fun i => tr_id) (by kernel_rfl) (by kernel_rfl) @h
def s189_p2 (K : Value → World → Prop) (B1 : List Value → World → Prop) (t3 t45 t46 t47 : Value) (w : World) : Prop :=
  boI .add t47 (.int .i64 1) (fun t65 w =>
  B1 [t3, t45, t46, t65] w) w
def s189_p2_den (K : Value → World → Prop) (M1 : (Nat → Value) → World → Prop) : (Nat → Value) → World → Prop := denL Tryz.prog [(cd (Tryz.f189.body.getD .skip) [1, 1, 1, 1, 1, 1, 1, 1, 0, 1, 0, 0, 1, 1, 1])] M1 (fun i => (bif Nat.beq i 2 then (s189_p1_den K) else (fun _ _ => False))) (s189_R K)
theorem s189_p2_ok (K : Value → World → Prop) (B1 : List Value → World → Prop) (s : Nat → Value) (w : World) (h : s189_p2 K B1 (s 3) (s 45) (s 46) (s 47) w) : Tr (s189_p2_den K (fun s w => B1 [s 3, s 45, s 46, s 47] w) s w) :=
  tr_simple (P := Tryz.prog) (codes := [(cd (Tryz.f189.body.getD .skip) [1, 1, 1, 1, 1, 1, 1, 1, 0, 1, 0, 0, 1, 1, 1])]) (N := (fun s w => B1 [s 3, s 45, s 46, s 47] w)) (N' := (fun s w => B1 [s 3, s 45, s 46, s 47] w)) (X := (fun i => (bif Nat.beq i 2 then (fun s w => s189_p1 K (s 3) w) else (fun _ _ => False)))) (X' := (fun i => (bif Nat.beq i 2 then (s189_p1_den K) else (fun _ _ => False)))) (R := s189_R K) (s := s) (w := w) (p := s189_p2 K B1 (s 3) (s 45) (s 46) (s 47) w) (q := s189_p2_den K (fun s w => B1 [s 3, s 45, s 46, s 47] w) s w) tr_id (fun i => (tr_bif (fun s w h => s189_p1_ok K s w @h) tr_id)) (by kernel_rfl) (by kernel_rfl) @h
def s189_p3 (K : Value → World → Prop) (B1 : List Value → World → Prop) (B2 : List Value → World → Prop) (t3 t45 t46 t47 t55 t56 t57 : Value) (w : World) : Prop :=
  boI .lss t57 t56 (fun t58 w =>
  ifb t58
  (ixs 1 t55 t57 (fun t59 w =>
  ld1 t59 (fun t60 w =>
  cl Tryz.prog 136 #[t3, t60] (fun t63 w =>
  boI .add t57 (.int .i64 1) (fun t64 w =>
  B2 [t63, t45, t46, t47, t55, t56, t64] w) w) w) w) w)
  (s189_p2 K B1 t3 t45 t46 t47 w)) w
def s189_p3_den (K : Value → World → Prop) (M1 : (Nat → Value) → World → Prop) (M2 : (Nat → Value) → World → Prop) : (Nat → Value) → World → Prop := denL Tryz.prog [(cd (Tryz.f189.body.getD .skip) [1, 1, 1, 1, 1, 1, 1, 1, 0, 1, 0, 0, 1, 1, 0, 0, 1, 1, 1, 0, 0, 0]), (cd (Tryz.f189.body.getD .skip) [1, 1, 1, 1, 1, 1, 1, 1, 0, 1, 0, 0, 1, 1, 0, 0, 1, 1, 1, 0, 0, 1, 0]), (cd (Tryz.f189.body.getD .skip) [1, 1, 1, 1, 1, 1, 1, 1, 0, 1, 0, 0, 1, 1, 0, 0, 1, 1, 1, 0, 0, 1, 1, 0]), (cd (Tryz.f189.body.getD .skip) [1, 1, 1, 1, 1, 1, 1, 1, 0, 1, 0, 0, 1, 1, 0, 0, 1, 1, 1, 0, 0, 1, 1, 1])] M2 (fun i => (bif Nat.beq i 4 then (s189_p2_den K M1) else (bif Nat.beq i 3 then (s189_p2_den K M1) else (bif Nat.beq i 2 then (s189_p1_den K) else (fun _ _ => False))))) (s189_R K)
theorem s189_p3_ok (K : Value → World → Prop) (B1 : List Value → World → Prop) (B2 : List Value → World → Prop) (s : Nat → Value) (w : World) (h : s189_p3 K B1 B2 (s 3) (s 45) (s 46) (s 47) (s 55) (s 56) (s 57) w) : Tr (s189_p3_den K (fun s w => B1 [s 3, s 45, s 46, s 47] w) (fun s w => B2 [s 3, s 45, s 46, s 47, s 55, s 56, s 57] w) s w) :=
  tr_simple (P := Tryz.prog) (codes := [(cd (Tryz.f189.body.getD .skip) [1, 1, 1, 1, 1, 1, 1, 1, 0, 1, 0, 0, 1, 1, 0, 0, 1, 1, 1, 0, 0, 0]), (cd (Tryz.f189.body.getD .skip) [1, 1, 1, 1, 1, 1, 1, 1, 0, 1, 0, 0, 1, 1, 0, 0, 1, 1, 1, 0, 0, 1, 0]), (cd (Tryz.f189.body.getD .skip) [1, 1, 1, 1, 1, 1, 1, 1, 0, 1, 0, 0, 1, 1, 0, 0, 1, 1, 1, 0, 0, 1, 1, 0]), (cd (Tryz.f189.body.getD .skip) [1, 1, 1, 1, 1, 1, 1, 1, 0, 1, 0, 0, 1, 1, 0, 0, 1, 1, 1, 0, 0, 1, 1, 1])]) (N := (fun s w => B2 [s 3, s 45, s 46, s 47, s 55, s 56, s 57] w)) (N' := (fun s w => B2 [s 3, s 45, s 46, s 47, s 55, s 56, s 57] w)) (X := (fun i => (bif Nat.beq i 4 then (fun s w => s189_p2 K B1 (s 3) (s 45) (s 46) (s 47) w) else (bif Nat.beq i 3 then (fun s w => s189_p2 K B1 (s 3) (s 45) (s 46) (s 47) w) else (bif Nat.beq i 2 then (fun s w => s189_p1 K (s 3) w) else (fun _ _ => False)))))) (X' := (fun i => (bif Nat.beq i 4 then (s189_p2_den K (fun s w => B1 [s 3, s 45, s 46, s 47] w)) else (bif Nat.beq i 3 then (s189_p2_den K (fun s w => B1 [s 3, s 45, s 46, s 47] w)) else (bif Nat.beq i 2 then (s189_p1_den K) else (fun _ _ => False)))))) (R := s189_R K) (s := s) (w := w) (p := s189_p3 K B1 B2 (s 3) (s 45) (s 46) (s 47) (s 55) (s 56) (s 57) w) (q := s189_p3_den K (fun s w => B1 [s 3, s 45, s 46, s 47] w) (fun s w => B2 [s 3, s 45, s 46, s 47, s 55, s 56, s 57] w) s w) tr_id (fun i => (tr_bif (fun s w h => s189_p2_ok K B1 s w @h) (tr_bif (fun s w h => s189_p2_ok K B1 s w @h) (tr_bif (fun s w h => s189_p1_ok K s w @h) tr_id)))) (by kernel_rfl) (by kernel_rfl) @h
def s189_p4_F (K : Value → World → Prop) (B1 : List Value → World → Prop) (B2 : List Value → World → Prop) (l : List Value) (w : World) : Prop :=
  match l with
  | [t3, t45, t46, t47, t55, t56, t57] => s189_p3 K B1 B2 t3 t45 t46 t47 t55 t56 t57 w
  | _ => False
theorem s189_p4_Fe {K : Value → World → Prop} {B1 : List Value → World → Prop} {B2 : List Value → World → Prop} {t3 t45 t46 t47 t55 t56 t57 : Value} {w : World} : s189_p4_F K B1 B2 [t3, t45, t46, t47, t55, t56, t57] w = s189_p3 K B1 B2 t3 t45 t46 t47 t55 t56 t57 w := by kernel_rfl
def s189_p4 (K : Value → World → Prop) (B1 : List Value → World → Prop) (t3 t45 t46 t47 t55 t56 t57 : Value) (w : World) : Prop :=
  LoopL (s189_p4_F K B1) [t3, t45, t46, t47, t55, t56, t57] w
def s189_p4_den (K : Value → World → Prop) (M1 : (Nat → Value) → World → Prop) : (Nat → Value) → World → Prop := fun s w => LoopP (fun M2 s w => s189_p3_den K M1 M2 s w) s w
theorem s189_p4_ok (K : Value → World → Prop) (B1 : List Value → World → Prop) (s : Nat → Value) (w : World) (h : s189_p4 K B1 (s 3) (s 45) (s 46) (s 47) (s 55) (s 56) (s 57) w) : Tr (s189_p4_den K (fun s w => B1 [s 3, s 45, s 46, s 47] w) s w) :=
  tr_loop (G := fun N' s w => s189_p3_den K (fun s w => B1 [s 3, s 45, s 46, s 47] w) N' s w) (F := s189_p4_F K B1) (sel := fun s => [s 3, s 45, s 46, s 47, s 55, s 56, s 57]) (s := s) (w := w) (p := s189_p4 K B1 (s 3) (s 45) (s 46) (s 47) (s 55) (s 56) (s 57) w) (q := s189_p4_den K (fun s w => B1 [s 3, s 45, s 46, s 47] w) s w) (fun B s w h => s189_p3_ok K B1 B s w @h) (by kernel_rfl) (by kernel_rfl) @h
def s189_p5 (K : Value → World → Prop) (B1 : List Value → World → Prop) (t3 t45 t46 t47 : Value) (w : World) : Prop :=
  ixs 1 t45 t47 (fun t49 w =>
  ld1 t49 (fun t50 w =>
  lnS t50 (fun t53 w =>
  cl Tryz.prog 136 #[t3, t53] (fun t54 w =>
  lnS t50 (fun t56 w =>
  s189_p4 K B1 t54 t45 t46 t47 t50 t56 (.int .i64 0) w) w) w) w) w) w
def s189_p5_den (K : Value → World → Prop) (M1 : (Nat → Value) → World → Prop) : (Nat → Value) → World → Prop := denL Tryz.prog [(cd (Tryz.f189.body.getD .skip) [1, 1, 1, 1, 1, 1, 1, 1, 0, 1, 0, 0, 1, 1, 0, 0, 0]), (cd (Tryz.f189.body.getD .skip) [1, 1, 1, 1, 1, 1, 1, 1, 0, 1, 0, 0, 1, 1, 0, 0, 1, 0]), (cd (Tryz.f189.body.getD .skip) [1, 1, 1, 1, 1, 1, 1, 1, 0, 1, 0, 0, 1, 1, 0, 0, 1, 1, 0])] (s189_p4_den K M1) (fun i => (bif Nat.beq i 3 then (s189_p2_den K M1) else (bif Nat.beq i 2 then (s189_p1_den K) else (fun _ _ => False)))) (s189_R K)
theorem s189_p5_ok (K : Value → World → Prop) (B1 : List Value → World → Prop) (s : Nat → Value) (w : World) (h : s189_p5 K B1 (s 3) (s 45) (s 46) (s 47) w) : Tr (s189_p5_den K (fun s w => B1 [s 3, s 45, s 46, s 47] w) s w) :=
  tr_simple (P := Tryz.prog) (codes := [(cd (Tryz.f189.body.getD .skip) [1, 1, 1, 1, 1, 1, 1, 1, 0, 1, 0, 0, 1, 1, 0, 0, 0]), (cd (Tryz.f189.body.getD .skip) [1, 1, 1, 1, 1, 1, 1, 1, 0, 1, 0, 0, 1, 1, 0, 0, 1, 0]), (cd (Tryz.f189.body.getD .skip) [1, 1, 1, 1, 1, 1, 1, 1, 0, 1, 0, 0, 1, 1, 0, 0, 1, 1, 0])]) (N := (fun s w => s189_p4 K B1 (s 3) (s 45) (s 46) (s 47) (s 55) (s 56) (s 57) w)) (N' := (s189_p4_den K (fun s w => B1 [s 3, s 45, s 46, s 47] w))) (X := (fun i => (bif Nat.beq i 3 then (fun s w => s189_p2 K B1 (s 3) (s 45) (s 46) (s 47) w) else (bif Nat.beq i 2 then (fun s w => s189_p1 K (s 3) w) else (fun _ _ => False))))) (X' := (fun i => (bif Nat.beq i 3 then (s189_p2_den K (fun s w => B1 [s 3, s 45, s 46, s 47] w)) else (bif Nat.beq i 2 then (s189_p1_den K) else (fun _ _ => False))))) (R := s189_R K) (s := s) (w := w) (p := s189_p5 K B1 (s 3) (s 45) (s 46) (s 47) w) (q := s189_p5_den K (fun s w => B1 [s 3, s 45, s 46, s 47] w) s w) (fun s w h => s189_p4_ok K B1 s w @h) (fun i => (tr_bif (fun s w h => s189_p2_ok K B1 s w @h) (tr_bif (fun s w h => s189_p1_ok K s w @h) tr_id))) (by kernel_rfl) (by kernel_rfl) @h
def s189_p6 (K : Value → World → Prop) (B1 : List Value → World → Prop) (t3 t45 t46 t47 : Value) (w : World) : Prop :=
  boI .lss t47 t46 (fun t48 w =>
  ifb t48
  (s189_p5 K B1 t3 t45 t46 t47 w)
  (s189_p1 K t3 w)) w
def s189_p6_den (K : Value → World → Prop) (M1 : (Nat → Value) → World → Prop) : (Nat → Value) → World → Prop := denL Tryz.prog [(cd (Tryz.f189.body.getD .skip) [1, 1, 1, 1, 1, 1, 1, 1, 0, 1, 0, 0, 0]), (cd (Tryz.f189.body.getD .skip) [1, 1, 1, 1, 1, 1, 1, 1, 0, 1, 0, 0, 1, 0])] (s189_p5_den K M1) (fun i => (bif Nat.beq i 2 then (s189_p1_den K) else (fun _ _ => False))) (s189_R K)
theorem s189_p6_ok (K : Value → World → Prop) (B1 : List Value → World → Prop) (s : Nat → Value) (w : World) (h : s189_p6 K B1 (s 3) (s 45) (s 46) (s 47) w) : Tr (s189_p6_den K (fun s w => B1 [s 3, s 45, s 46, s 47] w) s w) :=
  tr_simple (P := Tryz.prog) (codes := [(cd (Tryz.f189.body.getD .skip) [1, 1, 1, 1, 1, 1, 1, 1, 0, 1, 0, 0, 0]), (cd (Tryz.f189.body.getD .skip) [1, 1, 1, 1, 1, 1, 1, 1, 0, 1, 0, 0, 1, 0])]) (N := (fun s w => s189_p5 K B1 (s 3) (s 45) (s 46) (s 47) w)) (N' := (s189_p5_den K (fun s w => B1 [s 3, s 45, s 46, s 47] w))) (X := (fun i => (bif Nat.beq i 2 then (fun s w => s189_p1 K (s 3) w) else (fun _ _ => False)))) (X' := (fun i => (bif Nat.beq i 2 then (s189_p1_den K) else (fun _ _ => False)))) (R := s189_R K) (s := s) (w := w) (p := s189_p6 K B1 (s 3) (s 45) (s 46) (s 47) w) (q := s189_p6_den K (fun s w => B1 [s 3, s 45, s 46, s 47] w) s w) (fun s w h => s189_p5_ok K B1 s w @h) (fun i => (tr_bif (fun s w h => s189_p1_ok K s w @h) tr_id)) (by kernel_rfl) (by kernel_rfl) @h
def s189_p7_F (K : Value → World → Prop) (B1 : List Value → World → Prop) (l : List Value) (w : World) : Prop :=
  match l with
  | [t3, t45, t46, t47] => s189_p6 K B1 t3 t45 t46 t47 w
  | _ => False
theorem s189_p7_Fe {K : Value → World → Prop} {B1 : List Value → World → Prop} {t3 t45 t46 t47 : Value} {w : World} : s189_p7_F K B1 [t3, t45, t46, t47] w = s189_p6 K B1 t3 t45 t46 t47 w := by kernel_rfl
def s189_p7 (K : Value → World → Prop) (t3 t45 t46 t47 : Value) (w : World) : Prop :=
  LoopL (s189_p7_F K) [t3, t45, t46, t47] w
def s189_p7_den (K : Value → World → Prop) : (Nat → Value) → World → Prop := fun s w => LoopP (fun M1 s w => s189_p6_den K M1 s w) s w
theorem s189_p7_ok (K : Value → World → Prop) (s : Nat → Value) (w : World) (h : s189_p7 K (s 3) (s 45) (s 46) (s 47) w) : Tr (s189_p7_den K s w) :=
  tr_loop (G := fun N' s w => s189_p6_den K N' s w) (F := s189_p7_F K) (sel := fun s => [s 3, s 45, s 46, s 47]) (s := s) (w := w) (p := s189_p7 K (s 3) (s 45) (s 46) (s 47) w) (q := s189_p7_den K s w) (fun B s w h => s189_p6_ok K B s w @h) (by kernel_rfl) (by kernel_rfl) @h
def s189_p8 (K : Value → World → Prop) (t1 t3 : Value) (w : World) : Prop :=
  fd 4 t1 (fun t40 w =>
  ld1 t40 (fun t41 w =>
  lnS t41 (fun t42 w =>
  cl Tryz.prog 136 #[t3, t42] (fun t43 w =>
  fd 4 t1 (fun t44 w =>
  ld1 t44 (fun t45 w =>
  lnS t45 (fun t46 w =>
  s189_p7 K t43 t45 t46 (.int .i64 0) w) w) w) w) w) w) w) w
def s189_p8_den (K : Value → World → Prop) : (Nat → Value) → World → Prop := denL Tryz.prog [(cd (Tryz.f189.body.getD .skip) [1, 1, 1, 1, 1, 1, 1, 0]), (cd (Tryz.f189.body.getD .skip) [1, 1, 1, 1, 1, 1, 1, 1, 0, 0])] (s189_p7_den K) (fun i => (fun _ _ => False)) (s189_R K)
theorem s189_p8_ok (K : Value → World → Prop) (s : Nat → Value) (w : World) (h : s189_p8 K (s 1) (s 3) w) : Tr (s189_p8_den K s w) :=
  tr_simple (P := Tryz.prog) (codes := [(cd (Tryz.f189.body.getD .skip) [1, 1, 1, 1, 1, 1, 1, 0]), (cd (Tryz.f189.body.getD .skip) [1, 1, 1, 1, 1, 1, 1, 1, 0, 0])]) (N := (fun s w => s189_p7 K (s 3) (s 45) (s 46) (s 47) w)) (N' := (s189_p7_den K)) (X := (fun i => (fun _ _ => False))) (X' := (fun i => (fun _ _ => False))) (R := s189_R K) (s := s) (w := w) (p := s189_p8 K (s 1) (s 3) w) (q := s189_p8_den K s w) (fun s w h => s189_p7_ok K s w @h) (fun i => tr_id) (by kernel_rfl) (by kernel_rfl) @h
def s189_p9 (K : Value → World → Prop) (B1 : List Value → World → Prop) (t1 t3 t29 t30 t31 : Value) (w : World) : Prop :=
  boI .lss t31 t30 (fun t32 w =>
  ifb t32
  (ixs 7 t29 t31 (fun t33 w =>
  ldn 7 t33 (fun t34 w =>
  nw 85 #[(.int .i64 0), (.int .i64 0), (.int .i64 0), (.int .i64 0), (.int .i64 0), (.int .i64 0), (.slice none 0 0)] (fun t5 w =>
  stn 7 t5 t34 (fun w =>
  ldn 7 t5 (fun t36 w =>
  cl Tryz.prog 187 #[t3, t36] (fun t37 w =>
  boI .add t31 (.int .i64 1) (fun t38 w =>
  B1 [t1, t37, t29, t30, t38] w) w) w) w) w) w) w) w)
  (s189_p8 K t1 t3 w)) w
def s189_p9_den (K : Value → World → Prop) (M1 : (Nat → Value) → World → Prop) : (Nat → Value) → World → Prop := denL Tryz.prog [(cd (Tryz.f189.body.getD .skip) [1, 1, 1, 1, 1, 1, 0, 1, 0, 0, 0]), (cd (Tryz.f189.body.getD .skip) [1, 1, 1, 1, 1, 1, 0, 1, 0, 0, 1, 0]), (cd (Tryz.f189.body.getD .skip) [1, 1, 1, 1, 1, 1, 0, 1, 0, 0, 1, 1, 0]), (cd (Tryz.f189.body.getD .skip) [1, 1, 1, 1, 1, 1, 0, 1, 0, 0, 1, 1, 1])] M1 (fun i => (bif Nat.beq i 0 then (s189_p8_den K) else (fun _ _ => False))) (s189_R K)
theorem s189_p9_ok (K : Value → World → Prop) (B1 : List Value → World → Prop) (s : Nat → Value) (w : World) (h : s189_p9 K B1 (s 1) (s 3) (s 29) (s 30) (s 31) w) : Tr (s189_p9_den K (fun s w => B1 [s 1, s 3, s 29, s 30, s 31] w) s w) :=
  tr_simple (P := Tryz.prog) (codes := [(cd (Tryz.f189.body.getD .skip) [1, 1, 1, 1, 1, 1, 0, 1, 0, 0, 0]), (cd (Tryz.f189.body.getD .skip) [1, 1, 1, 1, 1, 1, 0, 1, 0, 0, 1, 0]), (cd (Tryz.f189.body.getD .skip) [1, 1, 1, 1, 1, 1, 0, 1, 0, 0, 1, 1, 0]), (cd (Tryz.f189.body.getD .skip) [1, 1, 1, 1, 1, 1, 0, 1, 0, 0, 1, 1, 1])]) (N := (fun s w => B1 [s 1, s 3, s 29, s 30, s 31] w)) (N' := (fun s w => B1 [s 1, s 3, s 29, s 30, s 31] w)) (X := (fun i => (bif Nat.beq i 0 then (fun s w => s189_p8 K (s 1) (s 3) w) else (fun _ _ => False)))) (X' := (fun i => (bif Nat.beq i 0 then (s189_p8_den K) else (fun _ _ => False)))) (R := s189_R K) (s := s) (w := w) (p := s189_p9 K B1 (s 1) (s 3) (s 29) (s 30) (s 31) w) (q := s189_p9_den K (fun s w => B1 [s 1, s 3, s 29, s 30, s 31] w) s w) tr_id (fun i => (tr_bif (fun s w h => s189_p8_ok K s w @h) tr_id)) (by kernel_rfl) (by kernel_rfl) @h
def s189_p10_F (K : Value → World → Prop) (B1 : List Value → World → Prop) (l : List Value) (w : World) : Prop :=
  match l with
  | [t1, t3, t29, t30, t31] => s189_p9 K B1 t1 t3 t29 t30 t31 w
  | _ => False
theorem s189_p10_Fe {K : Value → World → Prop} {B1 : List Value → World → Prop} {t1 t3 t29 t30 t31 : Value} {w : World} : s189_p10_F K B1 [t1, t3, t29, t30, t31] w = s189_p9 K B1 t1 t3 t29 t30 t31 w := by kernel_rfl
def s189_p10 (K : Value → World → Prop) (t1 t3 t29 t30 t31 : Value) (w : World) : Prop :=
  LoopL (s189_p10_F K) [t1, t3, t29, t30, t31] w
def s189_p10_den (K : Value → World → Prop) : (Nat → Value) → World → Prop := fun s w => LoopP (fun M1 s w => s189_p9_den K M1 s w) s w
theorem s189_p10_ok (K : Value → World → Prop) (s : Nat → Value) (w : World) (h : s189_p10 K (s 1) (s 3) (s 29) (s 30) (s 31) w) : Tr (s189_p10_den K s w) :=
  tr_loop (G := fun N' s w => s189_p9_den K N' s w) (F := s189_p10_F K) (sel := fun s => [s 1, s 3, s 29, s 30, s 31]) (s := s) (w := w) (p := s189_p10 K (s 1) (s 3) (s 29) (s 30) (s 31) w) (q := s189_p10_den K s w) (fun B s w h => s189_p9_ok K B s w @h) (by kernel_rfl) (by kernel_rfl) @h
def s189_p11 (K : Value → World → Prop) (t0 : Value) (w : World) : Prop :=
  nw 152 (t0).cells (fun t1 w =>
  bsq 5 [(.int .u8 0)] 1 [(some (0, 1), (.int .u8 1))] (fun t10 w =>
  fd 0 t1 (fun t12 w =>
  ld1 t12 (fun t13 w =>
  cl Tryz.prog 136 #[t10, t13] (fun t14 w =>
  fd 1 t1 (fun t16 w =>
  ld1 t16 (fun t17 w =>
  cl Tryz.prog 136 #[t14, t17] (fun t18 w =>
  fd 2 t1 (fun t20 w =>
  ld1 t20 (fun t21 w =>
  cl Tryz.prog 136 #[t18, t21] (fun t22 w =>
  fd 3 t1 (fun t24 w =>
  ld1 t24 (fun t25 w =>
  lnS t25 (fun t26 w =>
  cl Tryz.prog 136 #[t22, t26] (fun t27 w =>
  fd 3 t1 (fun t28 w =>
  ld1 t28 (fun t29 w =>
  lnS t29 (fun t30 w =>
  s189_p10 K t1 t27 t29 t30 (.int .i64 0) w) w) w) w) w) w) w) w) w) w) w) w) w) w) w) w) w) w) w
def s189_p11_den (K : Value → World → Prop) : (Nat → Value) → World → Prop := denL Tryz.prog [(cd (Tryz.f189.body.getD .skip) [0]), (cd (Tryz.f189.body.getD .skip) [1, 0]), (cd (Tryz.f189.body.getD .skip) [1, 1, 0]), (cd (Tryz.f189.body.getD .skip) [1, 1, 1, 0]), (cd (Tryz.f189.body.getD .skip) [1, 1, 1, 1, 0]), (cd (Tryz.f189.body.getD .skip) [1, 1, 1, 1, 1, 0]), (cd (Tryz.f189.body.getD .skip) [1, 1, 1, 1, 1, 1, 0, 0])] (s189_p10_den K) (fun i => (fun _ _ => False)) (s189_R K)
theorem s189_p11_ok (K : Value → World → Prop) (s : Nat → Value) (w : World) (h : s189_p11 K (s 0) w) : Tr (s189_p11_den K s w) :=
  tr_simple (P := Tryz.prog) (codes := [(cd (Tryz.f189.body.getD .skip) [0]), (cd (Tryz.f189.body.getD .skip) [1, 0]), (cd (Tryz.f189.body.getD .skip) [1, 1, 0]), (cd (Tryz.f189.body.getD .skip) [1, 1, 1, 0]), (cd (Tryz.f189.body.getD .skip) [1, 1, 1, 1, 0]), (cd (Tryz.f189.body.getD .skip) [1, 1, 1, 1, 1, 0]), (cd (Tryz.f189.body.getD .skip) [1, 1, 1, 1, 1, 1, 0, 0])]) (N := (fun s w => s189_p10 K (s 1) (s 3) (s 29) (s 30) (s 31) w)) (N' := (s189_p10_den K)) (X := (fun i => (fun _ _ => False))) (X' := (fun i => (fun _ _ => False))) (R := s189_R K) (s := s) (w := w) (p := s189_p11 K (s 0) w) (q := s189_p11_den K s w) (fun s w h => s189_p10_ok K s w @h) (fun i => tr_id) (by kernel_rfl) (by kernel_rfl) @h
/-- the call, from the text -/
theorem c189 (t0 : Value) {K : Value → World → Prop} {w : World} (h : s189_p11 K t0 w) : cl Tryz.prog 189 #[t0] K w :=
  calls_of_tr (c := (Tryz.f189.body.getD .skip)) (fn := Tryz.f189) (q := s189_p11_den K (st0 #[t0]) w) Tryz.func189 (by kernel_rfl) (by kernel_rfl) (Nat.le_of_ble_eq_true (by kernel_rfl)) (by kernel_rfl) (by kernel_rfl) (s189_p11_ok K (st0 #[t0]) w @h)

/-! ### function 172 : e2e.engine.decodeImage -/
def s172_R (K : Value → World → Prop) (s : Nat → Value) (w : World) : Prop := retv Tryz.prog s Tryz.f172.results.toList (fun vs => K (pack vs) w) w
def s172_p1 (K : Value → World → Prop) (t2 t4 t5 : Value) (w : World) : Prop :=
  cl Tryz.prog 108 #[t4] (fun t35 w =>
  un .not t35 (fun t36 w =>
  ifb t36
  (bdq [(.int .i64 0), (.int .i64 0), (.int .i64 0), (.slice none 0 0), (.slice none 0 0)] [] (fun t37 w =>
  stn 5 t2 t37 (fun w =>
  ldn 5 t2 (fun r0 _ =>
  K (.tuple #[r0, (.bool false)]) w) w) w) w)
  (ldn 5 t5 (fun t38 w =>
  stn 5 t2 t38 (fun w =>
  ldn 5 t2 (fun r0 _ =>
  K (.tuple #[r0, (.bool true)]) w) w) w) w)) w) w
def s172_p1_den (K : Value → World → Prop) : (Nat → Value) → World → Prop := denL Tryz.prog [(cd (Tryz.f172.body.getD .skip) [1, 1, 1, 1, 1, 1, 1, 1, 1, 1, 0, 0]), (cd (Tryz.f172.body.getD .skip) [1, 1, 1, 1, 1, 1, 1, 1, 1, 1, 0, 1]), (cd (Tryz.f172.body.getD .skip) [1, 1, 1, 1, 1, 1, 1, 1, 1, 1, 1, 0]), (cd (Tryz.f172.body.getD .skip) [1, 1, 1, 1, 1, 1, 1, 1, 1, 1, 1, 1])] (fun _ _ => False) (fun i => (fun _ _ => False)) (s172_R K)
theorem s172_p1_ok (K : Value → World → Prop) (s : Nat → Value) (w : World) (h : s172_p1 K (s 2) (s 4) (s 5) w) : Tr (s172_p1_den K s w) :=
  tr_simple (P := Tryz.prog) (codes := [(cd (Tryz.f172.body.getD .skip) [1, 1, 1, 1, 1, 1, 1, 1, 1, 1, 0, 0]), (cd (Tryz.f172.body.getD .skip) [1, 1, 1, 1, 1, 1, 1, 1, 1, 1, 0, 1]), (cd (Tryz.f172.body.getD .skip) [1, 1, 1, 1, 1, 1, 1, 1, 1, 1, 1, 0]), (cd (Tryz.f172.body.getD .skip) [1, 1, 1, 1, 1, 1, 1, 1, 1, 1, 1, 1])]) (N := (fun _ _ => False)) (N' := (fun _ _ => False)) (X := (fun i => (fun _ _ => False))) (X' := (fun i => (fun _ _ => False))) (R := s172_R K) (s := s) (w := w) (p := s172_p1 K (s 2) (s 4) (s 5) w) (q := s172_p1_den K s w) tr_id (fun i => tr_id) (by kernel_rfl) (by kernel_rfl) @h
def s172_p2 (K : Value → World → Prop) (B1 : List Value → World → Prop) (t2 t4 t5 t25 t26 : Value) (w : World) : Prop :=
  boI .add t26 (.int .i64 1) (fun t34 w =>
  B1 [t2, t4, t5, t25, t34] w) w
def s172_p2_den (K : Value → World → Prop) (M1 : (Nat → Value) → World → Prop) : (Nat → Value) → World → Prop := denL Tryz.prog [(cd (Tryz.f172.body.getD .skip) [1, 1, 1, 1, 1, 1, 1, 1, 1, 0, 1, 0, 0, 1, 1, 1])] M1 (fun i => (bif Nat.beq i 0 then (s172_p1_den K) else (fun _ _ => False))) (s172_R K)
theorem s172_p2_ok (K : Value → World → Prop) (B1 : List Value → World → Prop) (s : Nat → Value) (w : World) (h : s172_p2 K B1 (s 2) (s 4) (s 5) (s 25) (s 26) w) : Tr (s172_p2_den K (fun s w => B1 [s 2, s 4, s 5, s 25, s 26] w) s w) :=
  tr_simple (P := Tryz.prog) (codes := [(cd (Tryz.f172.body.getD .skip) [1, 1, 1, 1, 1, 1, 1, 1, 1, 0, 1, 0, 0, 1, 1, 1])]) (N := (fun s w => B1 [s 2, s 4, s 5, s 25, s 26] w)) (N' := (fun s w => B1 [s 2, s 4, s 5, s 25, s 26] w)) (X := (fun i => (bif Nat.beq i 0 then (fun s w => s172_p1 K (s 2) (s 4) (s 5) w) else (fun _ _ => False)))) (X' := (fun i => (bif Nat.beq i 0 then (s172_p1_den K) else (fun _ _ => False)))) (R := s172_R K) (s := s) (w := w) (p := s172_p2 K B1 (s 2) (s 4) (s 5) (s 25) (s 26) w) (q := s172_p2_den K (fun s w => B1 [s 2, s 4, s 5, s 25, s 26] w) s w) tr_id (fun i => (tr_bif (fun s w h => s172_p1_ok K s w @h) tr_id)) (by kernel_rfl) (by kernel_rfl) @h
def s172_p3_d (K : Value → World → Prop) (B1 : List Value → World → Prop) (J : World → Prop) (t2 t4 t5 t6 t25 t26 : Value) (w0 w : World) : Prop :=
  fd 4 t5 (fun t29 _ =>
  Go.Sh.R.qw J (ld1 t29) (fun t30 =>
  ixs 1 t30 t6 (fun t33 _ =>
  cl Tryz.prog 135 #[t4] (fun t32 w =>
  J w ∧
  st1 t33 t32 (fun w =>
  s172_p2 K B1 t2 t4 t5 t25 t26 w) w) w) w0)) w0
def s172_p3 (K : Value → World → Prop) (B1 : List Value → World → Prop) (t2 t4 t5 t6 t25 t26 : Value) (w : World) : Prop := ∃ J : World → Prop, J (drw w) ∧ s172_p3_d K B1 J t2 t4 t5 t6 t25 t26 (drw w) (drw w)
def s172_p3_den (K : Value → World → Prop) (M1 : (Nat → Value) → World → Prop) : (Nat → Value) → World → Prop := denL Tryz.prog [(cd (Tryz.f172.body.getD .skip) [1, 1, 1, 1, 1, 1, 1, 1, 1, 0, 1, 0, 0, 1, 1, 0, 0, 1])] (s172_p2_den K M1) (fun i => (bif Nat.beq i 1 then (s172_p2_den K M1) else (bif Nat.beq i 0 then (s172_p1_den K) else (fun _ _ => False)))) (s172_R K)
theorem s172_p3_ok (K : Value → World → Prop) (B1 : List Value → World → Prop) (s : Nat → Value) (w : World) (h : s172_p3 K B1 (s 2) (s 4) (s 5) (s 6) (s 25) (s 26) w) : Tr (s172_p3_den K (fun s w => B1 [s 2, s 4, s 5, s 25, s 26] w) s w) :=
  Go.Sh.R.tr_drawR (P := Tryz.prog) (ops := (ro (cd (Tryz.f172.body.getD .skip) [1, 1, 1, 1, 1, 1, 1, 1, 1, 0, 1, 0, 0, 1, 1, 0, 0, 1]))) (ms := [0, 1, 0, 0, 15, 31]) (cs := [0, 1, 2, 4]) (N := (fun s w => s172_p2 K B1 (s 2) (s 4) (s 5) (s 25) (s 26) w)) (N' := (s172_p2_den K (fun s w => B1 [s 2, s 4, s 5, s 25, s 26] w))) (s := s) (w := w) (p := fun J => s172_p3_d K B1 J (s 2) (s 4) (s 5) (s 6) (s 25) (s 26) (drw w) (drw w)) (q := s172_p3_den K (fun s w => B1 [s 2, s 4, s 5, s 25, s 26] w) s w) (by kernel_rfl) (by kernel_rfl) (fun s w h => s172_p2_ok K B1 s w @h) (by kernel_rfl) (by kernel_rfl) @h
def s172_p4 (K : Value → World → Prop) (B1 : List Value → World → Prop) (t2 t4 t5 t25 t26 : Value) (w : World) : Prop :=
  s172_p3 K B1 t2 t4 t5 t26 t25 t26 w
def s172_p4_den (K : Value → World → Prop) (M1 : (Nat → Value) → World → Prop) : (Nat → Value) → World → Prop := denL Tryz.prog [(cd (Tryz.f172.body.getD .skip) [1, 1, 1, 1, 1, 1, 1, 1, 1, 0, 1, 0, 0, 1, 1, 0, 0, 0])] (s172_p3_den K M1) (fun i => (bif Nat.beq i 1 then (s172_p2_den K M1) else (bif Nat.beq i 0 then (s172_p1_den K) else (fun _ _ => False)))) (s172_R K)
theorem s172_p4_ok (K : Value → World → Prop) (B1 : List Value → World → Prop) (s : Nat → Value) (w : World) (h : s172_p4 K B1 (s 2) (s 4) (s 5) (s 25) (s 26) w) : Tr (s172_p4_den K (fun s w => B1 [s 2, s 4, s 5, s 25, s 26] w) s w) :=
  tr_simple (P := Tryz.prog) (codes := [(cd (Tryz.f172.body.getD .skip) [1, 1, 1, 1, 1, 1, 1, 1, 1, 0, 1, 0, 0, 1, 1, 0, 0, 0])]) (N := (fun s w => s172_p3 K B1 (s 2) (s 4) (s 5) (s 6) (s 25) (s 26) w)) (N' := (s172_p3_den K (fun s w => B1 [s 2, s 4, s 5, s 25, s 26] w))) (X := (fun i => (bif Nat.beq i 1 then (fun s w => s172_p2 K B1 (s 2) (s 4) (s 5) (s 25) (s 26) w) else (bif Nat.beq i 0 then (fun s w => s172_p1 K (s 2) (s 4) (s 5) w) else (fun _ _ => False))))) (X' := (fun i => (bif Nat.beq i 1 then (s172_p2_den K (fun s w => B1 [s 2, s 4, s 5, s 25, s 26] w)) else (bif Nat.beq i 0 then (s172_p1_den K) else (fun _ _ => False))))) (R := s172_R K) (s := s) (w := w) (p := s172_p4 K B1 (s 2) (s 4) (s 5) (s 25) (s 26) w) (q := s172_p4_den K (fun s w => B1 [s 2, s 4, s 5, s 25, s 26] w) s w) (fun s w h => s172_p3_ok K B1 s w @h) (fun i => (tr_bif (fun s w h => s172_p2_ok K B1 s w @h) (tr_bif (fun s w h => s172_p1_ok K s w @h) tr_id))) (by kernel_rfl) (by kernel_rfl) @h
def s172_p5 (K : Value → World → Prop) (B1 : List Value → World → Prop) (t2 t4 t5 t25 t26 : Value) (w : World) : Prop :=
  boI .lss t26 t25 (fun t27 w =>
  ifb t27
  (s172_p4 K B1 t2 t4 t5 t25 t26 w)
  (s172_p1 K t2 t4 t5 w)) w
def s172_p5_den (K : Value → World → Prop) (M1 : (Nat → Value) → World → Prop) : (Nat → Value) → World → Prop := denL Tryz.prog [(cd (Tryz.f172.body.getD .skip) [1, 1, 1, 1, 1, 1, 1, 1, 1, 0, 1, 0, 0, 0]), (cd (Tryz.f172.body.getD .skip) [1, 1, 1, 1, 1, 1, 1, 1, 1, 0, 1, 0, 0, 1, 0])] (s172_p4_den K M1) (fun i => (bif Nat.beq i 0 then (s172_p1_den K) else (fun _ _ => False))) (s172_R K)
theorem s172_p5_ok (K : Value → World → Prop) (B1 : List Value → World → Prop) (s : Nat → Value) (w : World) (h : s172_p5 K B1 (s 2) (s 4) (s 5) (s 25) (s 26) w) : Tr (s172_p5_den K (fun s w => B1 [s 2, s 4, s 5, s 25, s 26] w) s w) :=
  tr_simple (P := Tryz.prog) (codes := [(cd (Tryz.f172.body.getD .skip) [1, 1, 1, 1, 1, 1, 1, 1, 1, 0, 1, 0, 0, 0]), (cd (Tryz.f172.body.getD .skip) [1, 1, 1, 1, 1, 1, 1, 1, 1, 0, 1, 0, 0, 1, 0])]) (N := (fun s w => s172_p4 K B1 (s 2) (s 4) (s 5) (s 25) (s 26) w)) (N' := (s172_p4_den K (fun s w => B1 [s 2, s 4, s 5, s 25, s 26] w))) (X := (fun i => (bif Nat.beq i 0 then (fun s w => s172_p1 K (s 2) (s 4) (s 5) w) else (fun _ _ => False)))) (X' := (fun i => (bif Nat.beq i 0 then (s172_p1_den K) else (fun _ _ => False)))) (R := s172_R K) (s := s) (w := w) (p := s172_p5 K B1 (s 2) (s 4) (s 5) (s 25) (s 26) w) (q := s172_p5_den K (fun s w => B1 [s 2, s 4, s 5, s 25, s 26] w) s w) (fun s w h => s172_p4_ok K B1 s w @h) (fun i => (tr_bif (fun s w h => s172_p1_ok K s w @h) tr_id)) (by kernel_rfl) (by kernel_rfl) @h
def s172_p6_F (K : Value → World → Prop) (B1 : List Value → World → Prop) (l : List Value) (w : World) : Prop :=
  match l with
  | [t2, t4, t5, t25, t26] => s172_p5 K B1 t2 t4 t5 t25 t26 w
  | _ => False
theorem s172_p6_Fe {K : Value → World → Prop} {B1 : List Value → World → Prop} {t2 t4 t5 t25 t26 : Value} {w : World} : s172_p6_F K B1 [t2, t4, t5, t25, t26] w = s172_p5 K B1 t2 t4 t5 t25 t26 w := by kernel_rfl
def s172_p6 (K : Value → World → Prop) (t2 t4 t5 t25 t26 : Value) (w : World) : Prop :=
  LoopL (s172_p6_F K) [t2, t4, t5, t25, t26] w
def s172_p6_den (K : Value → World → Prop) : (Nat → Value) → World → Prop := fun s w => LoopP (fun M1 s w => s172_p5_den K M1 s w) s w
theorem s172_p6_ok (K : Value → World → Prop) (s : Nat → Value) (w : World) (h : s172_p6 K (s 2) (s 4) (s 5) (s 25) (s 26) w) : Tr (s172_p6_den K s w) :=
  tr_loop (G := fun N' s w => s172_p5_den K N' s w) (F := s172_p6_F K) (sel := fun s => [s 2, s 4, s 5, s 25, s 26]) (s := s) (w := w) (p := s172_p6 K (s 2) (s 4) (s 5) (s 25) (s 26) w) (q := s172_p6_den K s w) (fun B s w h => s172_p5_ok K B s w @h) (by kernel_rfl) (by kernel_rfl) @h
def s172_p7 (K : Value → World → Prop) (t0 : Value) (w : World) : Prop :=
  nw 152 #[(.int .i64 0), (.int .i64 0), (.int .i64 0), (.slice none 0 0), (.slice none 0 0)] (fun t2 w =>
  bdq [(.slice none 0 0), (.int .i64 0), (.bool false)] [(some (0, 1), t0)] (fun t8 w =>
  nw 139 #[(.slice none 0 0), (.int .i64 0), (.bool false)] (fun t4 w =>
  stn 3 t4 t8 (fun w =>
  cl Tryz.prog 104 #[t4] (fun t9 w =>
  boI .neq t9 (.int .u8 1) (fun t10 w =>
  ifb t10
  (bdq [(.int .i64 0), (.int .i64 0), (.int .i64 0), (.slice none 0 0), (.slice none 0 0)] [] (fun t11 w =>
  stn 5 t2 t11 (fun w =>
  ldn 5 t2 (fun r0 _ =>
  K (.tuple #[r0, (.bool false)]) w) w) w) w)
  (nw 152 #[(.int .i64 0), (.int .i64 0), (.int .i64 0), (.slice none 0 0), (.slice none 0 0)] (fun t5 w =>
  cl Tryz.prog 105 #[t4] (fun t12 w =>
  fd 0 t5 (fun t13 w =>
  st1 t13 t12 (fun w =>
  cl Tryz.prog 105 #[t4] (fun t14 w =>
  fd 1 t5 (fun t15 w =>
  st1 t15 t14 (fun w =>
  cl Tryz.prog 105 #[t4] (fun t16 w =>
  fd 2 t5 (fun t17 w =>
  st1 t17 t16 (fun w =>
  cl Tryz.prog 134 #[t4] (fun t18 w =>
  fd 3 t5 (fun t19 w =>
  st1 t19 t18 (fun w =>
  cl Tryz.prog 181 #[t4, (.int .i64 1)] (fun t20 w =>
  mks 79 [(.slice none 0 0)] 24 t20 t20 (fun t21 w =>
  fd 4 t5 (fun t22 w =>
  st1 t22 t21 (fun w =>
  fd 4 t5 (fun t23 w =>
  ld1 t23 (fun t24 w =>
  lnS t24 (fun t25 w =>
  s172_p6 K t2 t4 t5 t25 (.int .i64 0) w) w) w) w) w) w) w) w) w) w) w) w) w) w) w) w) w) w) w) w) w)) w) w) w) w) w) w
def s172_p7_den (K : Value → World → Prop) : (Nat → Value) → World → Prop := denL Tryz.prog [(cd (Tryz.f172.body.getD .skip) [0]), (cd (Tryz.f172.body.getD .skip) [1, 0]), (cd (Tryz.f172.body.getD .skip) [1, 1, 0, 0]), (cd (Tryz.f172.body.getD .skip) [1, 1, 0, 1]), (cd (Tryz.f172.body.getD .skip) [1, 1, 1, 0]), (cd (Tryz.f172.body.getD .skip) [1, 1, 1, 1, 0]), (cd (Tryz.f172.body.getD .skip) [1, 1, 1, 1, 1, 0]), (cd (Tryz.f172.body.getD .skip) [1, 1, 1, 1, 1, 1, 0]), (cd (Tryz.f172.body.getD .skip) [1, 1, 1, 1, 1, 1, 1, 0]), (cd (Tryz.f172.body.getD .skip) [1, 1, 1, 1, 1, 1, 1, 1, 0]), (cd (Tryz.f172.body.getD .skip) [1, 1, 1, 1, 1, 1, 1, 1, 1, 0, 0])] (s172_p6_den K) (fun i => (fun _ _ => False)) (s172_R K)
theorem s172_p7_ok (K : Value → World → Prop) (s : Nat → Value) (w : World) (h : s172_p7 K (s 0) w) : Tr (s172_p7_den K s w) :=
  tr_simple (P := Tryz.prog) (codes := [(cd (Tryz.f172.body.getD .skip) [0]), (cd (Tryz.f172.body.getD .skip) [1, 0]), (cd (Tryz.f172.body.getD .skip) [1, 1, 0, 0]), (cd (Tryz.f172.body.getD .skip) [1, 1, 0, 1]), (cd (Tryz.f172.body.getD .skip) [1, 1, 1, 0]), (cd (Tryz.f172.body.getD .skip) [1, 1, 1, 1, 0]), (cd (Tryz.f172.body.getD .skip) [1, 1, 1, 1, 1, 0]), (cd (Tryz.f172.body.getD .skip) [1, 1, 1, 1, 1, 1, 0]), (cd (Tryz.f172.body.getD .skip) [1, 1, 1, 1, 1, 1, 1, 0]), (cd (Tryz.f172.body.getD .skip) [1, 1, 1, 1, 1, 1, 1, 1, 0]), (cd (Tryz.f172.body.getD .skip) [1, 1, 1, 1, 1, 1, 1, 1, 1, 0, 0])]) (N := (fun s w => s172_p6 K (s 2) (s 4) (s 5) (s 25) (s 26) w)) (N' := (s172_p6_den K)) (X := (fun i => (fun _ _ => False))) (X' := (fun i => (fun _ _ => False))) (R := s172_R K) (s := s) (w := w) (p := s172_p7 K (s 0) w) (q := s172_p7_den K s w) (fun s w h => s172_p6_ok K s w @h) (fun i => tr_id) (by kernel_rfl) (by kernel_rfl) @h
/-- the call, from the text -/
theorem c172 (t0 : Value) {K : Value → World → Prop} {w : World} (h : s172_p7 K t0 w) : cl Tryz.prog 172 #[t0] K w :=
  calls_of_tr (c := (Tryz.f172.body.getD .skip)) (fn := Tryz.f172) (q := s172_p7_den K (st0 #[t0]) w) Tryz.func172 (by kernel_rfl) (by kernel_rfl) (Nat.le_of_ble_eq_true (by kernel_rfl)) (by kernel_rfl) (by kernel_rfl) (s172_p7_ok K (st0 #[t0]) w @h)

/-! ### function 122 : (*e2e.engine.Engine).restore -/
def s122_R (K : Value → World → Prop) (s : Nat → Value) (w : World) : Prop := retv Tryz.prog s Tryz.f122.results.toList (fun vs => K (pack vs) w) w
def s122_p1 (K : Value → World → Prop) (w : World) : Prop :=
  K (.bool true) w
def s122_p1_den (K : Value → World → Prop) : (Nat → Value) → World → Prop := denL Tryz.prog [(cd (Tryz.f122.body.getD .skip) [1, 1, 1, 1, 1, 1, 0]), (cd (Tryz.f122.body.getD .skip) [1, 1, 1, 1, 1, 1, 1])] (fun _ _ => False) (fun i => (fun _ _ => False)) (s122_R K)
theorem s122_p1_ok (K : Value → World → Prop) (s : Nat → Value) (w : World) (h : s122_p1 K w) : Tr (s122_p1_den K s w) :=
  tr_simple (P := Tryz.prog) (codes := [(cd (Tryz.f122.body.getD .skip) [1, 1, 1, 1, 1, 1, 0]), (cd (Tryz.f122.body.getD .skip) [1, 1, 1, 1, 1, 1, 1])]) (N := (fun _ _ => False)) (N' := (fun _ _ => False)) (X := (fun i => (fun _ _ => False))) (X' := (fun i => (fun _ _ => False))) (R := s122_R K) (s := s) (w := w) (p := s122_p1 K w) (q := s122_p1_den K s w) tr_id (fun i => tr_id) (by kernel_rfl) (by kernel_rfl) @h
def s122_p2_d (K : Value → World → Prop) (t0 t5 : Value) (w0 w : World) : Prop :=
  nck t0 (fun t45 _ =>
  fd 0 t45 (fun t46 _ =>
  ldn 14 t46 (fun t47 _ =>
  fd 4 t5 (fun t48 _ =>
  ld1 t48 (fun t49 _ =>
  nck t0 (fun t51 _ =>
  fd 16 t51 (fun t52 _ =>
  cl Tryz.prog 174 #[t47, t49] (fun t50 w =>
  st1 t52 t50 (fun w =>
  s122_p1 K w) w) w) w0) w0) w0) w0) w0) w0) w0
def s122_p2 (K : Value → World → Prop) (t0 t5 : Value) (w : World) : Prop := s122_p2_d K t0 t5 (drw w) (drw w)
def s122_p2_den (K : Value → World → Prop) : (Nat → Value) → World → Prop := denL Tryz.prog [(cd (Tryz.f122.body.getD .skip) [1, 1, 1, 1, 1, 0])] (s122_p1_den K) (fun i => (fun _ _ => False)) (s122_R K)
theorem s122_p2_ok (K : Value → World → Prop) (s : Nat → Value) (w : World) (h : s122_p2 K (s 0) (s 5) w) : Tr (s122_p2_den K s w) :=
  tr_draw (P := Tryz.prog) (ops := (ro (cd (Tryz.f122.body.getD .skip) [1, 1, 1, 1, 1, 0]))) (ms := [0, 0, 2, 6, 14, 0, 32, 126, 255, 511, 1023]) (cs := [0, 1, 2, 3, 4, 5, 6, 8, 9]) (N := (fun s w => s122_p1 K w)) (N' := (s122_p1_den K)) (s := s) (w := w) (p := s122_p2 K (s 0) (s 5) w) (q := s122_p2_den K s w) (by kernel_rfl) (by kernel_rfl) (fun s w h => s122_p1_ok K s w @h) (by kernel_rfl) (by kernel_rfl) @h
def s122_p3_d (K : Value → World → Prop) (t0 t5 : Value) (w0 w : World) : Prop :=
  nck t0 (fun t35 _ =>
  fd 0 t35 (fun t36 _ =>
  ldn 14 t36 (fun t37 _ =>
  fd 3 t5 (fun t38 _ =>
  ld1 t38 (fun t39 _ =>
  nck t0 (fun t41 _ =>
  fd 15 t41 (fun t42 _ =>
  cl Tryz.prog 173 #[t37, t39] (fun t40 w =>
  st1 t42 t40 (fun w =>
  s122_p2 K t0 t5 w) w) w) w0) w0) w0) w0) w0) w0) w0
def s122_p3 (K : Value → World → Prop) (t0 t5 : Value) (w : World) : Prop := s122_p3_d K t0 t5 (drw w) (drw w)
def s122_p3_den (K : Value → World → Prop) : (Nat → Value) → World → Prop := denL Tryz.prog [(cd (Tryz.f122.body.getD .skip) [1, 1, 1, 1, 0])] (s122_p2_den K) (fun i => (fun _ _ => False)) (s122_R K)
theorem s122_p3_ok (K : Value → World → Prop) (s : Nat → Value) (w : World) (h : s122_p3 K (s 0) (s 5) w) : Tr (s122_p3_den K s w) :=
  tr_draw (P := Tryz.prog) (ops := (ro (cd (Tryz.f122.body.getD .skip) [1, 1, 1, 1, 0]))) (ms := [0, 0, 2, 6, 14, 0, 32, 126, 255, 511, 1023]) (cs := [0, 1, 2, 3, 4, 5, 6, 8, 9]) (N := (fun s w => s122_p2 K (s 0) (s 5) w)) (N' := (s122_p2_den K)) (s := s) (w := w) (p := s122_p3 K (s 0) (s 5) w) (q := s122_p3_den K s w) (by kernel_rfl) (by kernel_rfl) (fun s w h => s122_p2_ok K s w @h) (by kernel_rfl) (by kernel_rfl) @h
def s122_p4_d (K : Value → World → Prop) (t0 t5 : Value) (w0 w : World) : Prop :=
  fd 1 t5 (fun t25 _ =>
  fd 2 t5 (fun t27 _ =>
  nck t0 (fun t29 _ =>
  fd 18 t29 (fun t30 _ =>
  nck t0 (fun t31 _ =>
  fd 14 t31 (fun t32 _ =>
  (ld1 t25 (fun t26 w =>
  (ld1 t27 (fun t28 w =>
  st1 t30 t26 (fun w =>
  st1 t32 t28 (fun w =>
  s122_p3 K t0 t5 w) w) w) w) ∧
  (st1 t30 t26 (fun w =>
  ld1 t27 (fun t28_2 w =>
  st1 t32 t28_2 (fun w =>
  s122_p3 K t0 t5 w) w) w) w)) w) ∧
  (ld1 t27 (fun t28_3 w =>
  ld1 t25 (fun t26_2 w =>
  st1 t30 t26_2 (fun w =>
  st1 t32 t28_3 (fun w =>
  s122_p3 K t0 t5 w) w) w) w) w)) w0) w0) w0) w0) w0) w0
def s122_p4 (K : Value → World → Prop) (t0 t5 : Value) (w : World) : Prop := s122_p4_d K t0 t5 (drw w) (drw w)
def s122_p4_den (K : Value → World → Prop) : (Nat → Value) → World → Prop := denL Tryz.prog [(cd (Tryz.f122.body.getD .skip) [1, 1, 1, 0])] (s122_p3_den K) (fun i => (fun _ _ => False)) (s122_R K)
theorem s122_p4_ok (K : Value → World → Prop) (s : Nat → Value) (w : World) (h : s122_p4 K (s 0) (s 5) w) : Tr (s122_p4_den K s w) :=
  tr_draw (P := Tryz.prog) (ops := (ro (cd (Tryz.f122.body.getD .skip) [1, 1, 1, 0]))) (ms := [0, 0, 0, 4, 0, 16, 13, 77, 205, 511, 1023, 2047]) (cs := [0, 1, 2, 4, 6, 7, 9, 10]) (N := (fun s w => s122_p3 K (s 0) (s 5) w)) (N' := (s122_p3_den K)) (s := s) (w := w) (p := s122_p4 K (s 0) (s 5) w) (q := s122_p4_den K s w) (by kernel_rfl) (by kernel_rfl) (fun s w h => s122_p3_ok K s w @h) (by kernel_rfl) (by kernel_rfl) @h
def s122_p5 (K : Value → World → Prop) (t0 t5 t22 : Value) (w : World) : Prop :=
  ifb t22
  (K (.bool false) w)
  (s122_p4 K t0 t5 w)
def s122_p5_den (K : Value → World → Prop) : (Nat → Value) → World → Prop := denL Tryz.prog [(cd (Tryz.f122.body.getD .skip) [1, 1, 0, 1])] (s122_p4_den K) (fun i => (fun _ _ => False)) (s122_R K)
theorem s122_p5_ok (K : Value → World → Prop) (s : Nat → Value) (w : World) (h : s122_p5 K (s 0) (s 5) (s 22) w) : Tr (s122_p5_den K s w) :=
  tr_simple (P := Tryz.prog) (codes := [(cd (Tryz.f122.body.getD .skip) [1, 1, 0, 1])]) (N := (fun s w => s122_p4 K (s 0) (s 5) w)) (N' := (s122_p4_den K)) (X := (fun i => (fun _ _ => False))) (X' := (fun i => (fun _ _ => False))) (R := s122_R K) (s := s) (w := w) (p := s122_p5 K (s 0) (s 5) (s 22) w) (q := s122_p5_den K s w) (fun s w h => s122_p4_ok K s w @h) (fun i => tr_id) (by kernel_rfl) (by kernel_rfl) @h
def s122_p6_d (K : Value → World → Prop) (t0 t5 t6 : Value) (w0 w : World) : Prop :=
  un .not t6 (fun t13 _ =>
  gd t13 false (fun K w => K t0 w) (fun t15 _ =>
  gd t13 false (nck t15) (fun t16 _ =>
  gd t13 false (fd 0 t16) (fun t17 _ =>
  gd t13 false (ldn 14 t17) (fun t18 _ =>
  gd t13 false (ldn 5 t5) (fun t19 _ =>
  gd t13 false (cl Tryz.prog 116 #[t18, t19]) (fun t20 w =>
  gd t13 false (un .not t20) (fun t21 w =>
  pk t13 (.bool true) t21 (fun t22 w =>
  s122_p5 K t0 t5 t22 w) w) w) w) w0) w0) w0) w0) w0) w0
def s122_p6 (K : Value → World → Prop) (t0 t5 t6 : Value) (w : World) : Prop := s122_p6_d K t0 t5 t6 (drw w) (drw w)
def s122_p6_den (K : Value → World → Prop) : (Nat → Value) → World → Prop := denL Tryz.prog [(cd (Tryz.f122.body.getD .skip) [1, 1, 0, 0])] (s122_p5_den K) (fun i => (fun _ _ => False)) (s122_R K)
theorem s122_p6_ok (K : Value → World → Prop) (s : Nat → Value) (w : World) (h : s122_p6 K (s 0) (s 5) (s 6) w) : Tr (s122_p6_den K s w) :=
  tr_draw (P := Tryz.prog) (ops := (ro (cd (Tryz.f122.body.getD .skip) [1, 1, 0, 0]))) (ms := [0, 1, 3, 7, 15, 31, 63, 7, 255, 511, 1023]) (cs := [0, 1, 2, 3, 4, 5, 6, 7]) (N := (fun s w => s122_p5 K (s 0) (s 5) (s 22) w)) (N' := (s122_p5_den K)) (s := s) (w := w) (p := s122_p6 K (s 0) (s 5) (s 6) w) (q := s122_p6_den K s w) (by kernel_rfl) (by kernel_rfl) (fun s w h => s122_p5_ok K s w @h) (by kernel_rfl) (by kernel_rfl) @h
def s122_p7 (K : Value → World → Prop) (t0 t1 : Value) (w : World) : Prop :=
  cl Tryz.prog 172 #[t1] (fun t9 w =>
  exq t9 0 (fun t10 w =>
  exq t9 1 (fun t11 w =>
  nw 152 #[(.int .i64 0), (.int .i64 0), (.int .i64 0), (.slice none 0 0), (.slice none 0 0)] (fun t5 w =>
  stn 5 t5 t10 (fun w =>
  s122_p6 K t0 t5 t11 w) w) w) w) w) w
def s122_p7_den (K : Value → World → Prop) : (Nat → Value) → World → Prop := denL Tryz.prog [(cd (Tryz.f122.body.getD .skip) [0]), (cd (Tryz.f122.body.getD .skip) [1, 0])] (s122_p6_den K) (fun i => (fun _ _ => False)) (s122_R K)
theorem s122_p7_ok (K : Value → World → Prop) (s : Nat → Value) (w : World) (h : s122_p7 K (s 0) (s 1) w) : Tr (s122_p7_den K s w) :=
  tr_simple (P := Tryz.prog) (codes := [(cd (Tryz.f122.body.getD .skip) [0]), (cd (Tryz.f122.body.getD .skip) [1, 0])]) (N := (fun s w => s122_p6 K (s 0) (s 5) (s 6) w)) (N' := (s122_p6_den K)) (X := (fun i => (fun _ _ => False))) (X' := (fun i => (fun _ _ => False))) (R := s122_R K) (s := s) (w := w) (p := s122_p7 K (s 0) (s 1) w) (q := s122_p7_den K s w) (fun s w h => s122_p6_ok K s w @h) (fun i => tr_id) (by kernel_rfl) (by kernel_rfl) @h
/-- the call, from the text -/
theorem c122 (t0 t1 : Value) {K : Value → World → Prop} {w : World} (h : s122_p7 K t0 t1 w) : cl Tryz.prog 122 #[t0, t1] K w :=
  calls_of_tr (c := (Tryz.f122.body.getD .skip)) (fn := Tryz.f122) (q := s122_p7_den K (st0 #[t0, t1]) w) Tryz.func122 (by kernel_rfl) (by kernel_rfl) (Nat.le_of_ble_eq_true (by kernel_rfl)) (by kernel_rfl) (by kernel_rfl) (s122_p7_ok K (st0 #[t0, t1]) w @h)

/-! ### function 36 : (*e2e.engine.Engine).Audit -/
def s36_R (K : Value → World → Prop) (s : Nat → Value) (w : World) : Prop := retv Tryz.prog s Tryz.f36.results.toList (fun vs => K (pack vs) w) w
def s36_p1 (K : Value → World → Prop) (t2 : Value) (w : World) : Prop :=
  K t2 w
def s36_p1_den (K : Value → World → Prop) : (Nat → Value) → World → Prop := denL Tryz.prog [(cd (Tryz.f36.body.getD .skip) [1, 1])] (fun _ _ => False) (fun i => (fun _ _ => False)) (s36_R K)
theorem s36_p1_ok (K : Value → World → Prop) (s : Nat → Value) (w : World) (h : s36_p1 K (s 2) w) : Tr (s36_p1_den K s w) :=
  tr_simple (P := Tryz.prog) (codes := [(cd (Tryz.f36.body.getD .skip) [1, 1])]) (N := (fun _ _ => False)) (N' := (fun _ _ => False)) (X := (fun i => (fun _ _ => False))) (X' := (fun i => (fun _ _ => False))) (R := s36_R K) (s := s) (w := w) (p := s36_p1 K (s 2) w) (q := s36_p1_den K s w) tr_id (fun i => tr_id) (by kernel_rfl) (by kernel_rfl) @h
def s36_p2_d (K : Value → World → Prop) (t0 : Value) (w0 w : World) : Prop :=
  nck t0 (fun t4 _ =>
  fd 0 t4 (fun t5 _ =>
  ldn 14 t5 (fun t6 _ =>
  cl Tryz.prog 117 #[t0] (fun t8 w =>
  Below w0.heap.size w0 w ∧
  cl Tryz.prog 116 #[t6, t8] (fun t9 w =>
  s36_p1 K t9 w) w) w) w0) w0) w0
def s36_p2 (K : Value → World → Prop) (t0 : Value) (w : World) : Prop := s36_p2_d K t0 (drw w) (drw w)
def s36_p2_den (K : Value → World → Prop) : (Nat → Value) → World → Prop := denL Tryz.prog [(cd (Tryz.f36.body.getD .skip) [1, 0])] (s36_p1_den K) (fun i => (fun _ _ => False)) (s36_R K)
theorem s36_p2_ok (K : Value → World → Prop) (s : Nat → Value) (w : World) (h : s36_p2 K (s 0) w) : Tr (s36_p2_den K s w) :=
  tr_draw (P := Tryz.prog) (ops := (ro (cd (Tryz.f36.body.getD .skip) [1, 0]))) (ms := [0, 1, 3, 7, 0, 16, 63, 127]) (cs := [0, 1, 2, 3, 4]) (N := (fun s w => s36_p1 K (s 2) w)) (N' := (s36_p1_den K)) (s := s) (w := w) (p := s36_p2 K (s 0) w) (q := s36_p2_den K s w) (by kernel_rfl) (by kernel_rfl) (fun s w h => s36_p1_ok K s w @h) (by kernel_rfl) (by kernel_rfl) @h
def s36_p3 (K : Value → World → Prop) (t0 : Value) (w : World) : Prop :=
  s36_p2 K t0 w
def s36_p3_den (K : Value → World → Prop) : (Nat → Value) → World → Prop := denL Tryz.prog [(cd (Tryz.f36.body.getD .skip) [0])] (s36_p2_den K) (fun i => (fun _ _ => False)) (s36_R K)
theorem s36_p3_ok (K : Value → World → Prop) (s : Nat → Value) (w : World) (h : s36_p3 K (s 0) w) : Tr (s36_p3_den K s w) :=
  tr_simple (P := Tryz.prog) (codes := [(cd (Tryz.f36.body.getD .skip) [0])]) (N := (fun s w => s36_p2 K (s 0) w)) (N' := (s36_p2_den K)) (X := (fun i => (fun _ _ => False))) (X' := (fun i => (fun _ _ => False))) (R := s36_R K) (s := s) (w := w) (p := s36_p3 K (s 0) w) (q := s36_p3_den K s w) (fun s w h => s36_p2_ok K s w @h) (fun i => tr_id) (by kernel_rfl) (by kernel_rfl) @h
/-- the call, from the text -/
theorem c36 (t0 : Value) {K : Value → World → Prop} {w : World} (h : s36_p3 K t0 w) : cl Tryz.prog 36 #[t0] K w :=
  calls_of_tr (c := (Tryz.f36.body.getD .skip)) (fn := Tryz.f36) (q := s36_p3_den K (st0 #[t0]) w) Tryz.func36 (by kernel_rfl) (by kernel_rfl) (Nat.le_of_ble_eq_true (by kernel_rfl)) (by kernel_rfl) (by kernel_rfl) (s36_p3_ok K (st0 #[t0]) w @h)

/-! ### function 116 : e2e.engine.checkImage -/
def s116_R (K : Value → World → Prop) (s : Nat → Value) (w : World) : Prop := retv Tryz.prog s Tryz.f116.results.toList (fun vs => K (pack vs) w) w
def s116_p1 (K : Value → World → Prop) (t2 t3 : Value) (w : World) : Prop :=
  ldn 14 t2 (fun t56 w =>
  ldn 5 t3 (fun t57 w =>
  cl Tryz.prog 160 #[t56, t57] (fun t58 w =>
  gd t58 true (ldn 14 t2) (fun t60 w =>
  gd t58 true (fd 3 t3) (fun t61 w =>
  gd t58 true (ld1 t61) (fun t62 w =>
  gd t58 true (cl Tryz.prog 161 #[t60, t62]) (fun t63 w =>
  pk t58 t63 (.bool false) (fun t64 w =>
  K t64 w) w) w) w) w) w) w) w) w
def s116_p1_den (K : Value → World → Prop) : (Nat → Value) → World → Prop := denL Tryz.prog [(cd (Tryz.f116.body.getD .skip) [1, 1, 1, 1, 1, 0]), (cd (Tryz.f116.body.getD .skip) [1, 1, 1, 1, 1, 1])] (fun _ _ => False) (fun i => (fun _ _ => False)) (s116_R K)
theorem s116_p1_ok (K : Value → World → Prop) (s : Nat → Value) (w : World) (h : s116_p1 K (s 2) (s 3) w) : Tr (s116_p1_den K s w) :=
  tr_simple (P := Tryz.prog) (codes := [(cd (Tryz.f116.body.getD .skip) [1, 1, 1, 1, 1, 0]), (cd (Tryz.f116.body.getD .skip) [1, 1, 1, 1, 1, 1])]) (N := (fun _ _ => False)) (N' := (fun _ _ => False)) (X := (fun i => (fun _ _ => False))) (X' := (fun i => (fun _ _ => False))) (R := s116_R K) (s := s) (w := w) (p := s116_p1 K (s 2) (s 3) w) (q := s116_p1_den K s w) tr_id (fun i => tr_id) (by kernel_rfl) (by kernel_rfl) @h
def s116_p2 (K : Value → World → Prop) (B1 : List Value → World → Prop) (t2 t3 t35 t36 t37 : Value) (w : World) : Prop :=
  boI .lss t37 t36 (fun t38 w =>
  ifb t38
  (ixs 7 t35 t37 (fun t40 w =>
  ldn 7 t40 (fun t41 w =>
  nw 85 #[(.int .i64 0), (.int .i64 0), (.int .i64 0), (.int .i64 0), (.int .i64 0), (.int .i64 0), (.slice none 0 0)] (fun t6 w =>
  stn 7 t6 t41 (fun w =>
  fd 0 t6 (fun t42 w =>
  ld1 t42 (fun t43 w =>
  boI .add t37 (.int .i64 1) (fun t45 w =>
  boI .neq t43 t45 (fun t46 w =>
  gd t46 false (ldn 14 t2) (fun t48 w =>
  gd t46 false (fd 2 t3) (fun t49 w =>
  gd t46 false (ld1 t49) (fun t50 w =>
  gd t46 false (ldn 7 t6) (fun t51 w =>
  gd t46 false (cl Tryz.prog 159 #[t48, t50, t51]) (fun t52 w =>
  gd t46 false (un .not t52) (fun t53 w =>
  pk t46 (.bool true) t53 (fun t54 w =>
  ifb t54
  (K (.bool false) w)
  (boI .add t37 (.int .i64 1) (fun t55 w =>
  B1 [t2, t3, t35, t36, t55] w) w)) w) w) w) w) w) w) w) w) w) w) w) w) w) w) w)
  (s116_p1 K t2 t3 w)) w
def s116_p2_den (K : Value → World → Prop) (M1 : (Nat → Value) → World → Prop) : (Nat → Value) → World → Prop := denL Tryz.prog [(cd (Tryz.f116.body.getD .skip) [1, 1, 1, 1, 0, 1, 0, 0, 0]), (cd (Tryz.f116.body.getD .skip) [1, 1, 1, 1, 0, 1, 0, 0, 1, 0]), (cd (Tryz.f116.body.getD .skip) [1, 1, 1, 1, 0, 1, 0, 0, 1, 1, 0]), (cd (Tryz.f116.body.getD .skip) [1, 1, 1, 1, 0, 1, 0, 0, 1, 1, 1])] M1 (fun i => (bif Nat.beq i 0 then (s116_p1_den K) else (fun _ _ => False))) (s116_R K)
theorem s116_p2_ok (K : Value → World → Prop) (B1 : List Value → World → Prop) (s : Nat → Value) (w : World) (h : s116_p2 K B1 (s 2) (s 3) (s 35) (s 36) (s 37) w) : Tr (s116_p2_den K (fun s w => B1 [s 2, s 3, s 35, s 36, s 37] w) s w) :=
  tr_simple (P := Tryz.prog) (codes := [(cd (Tryz.f116.body.getD .skip) [1, 1, 1, 1, 0, 1, 0, 0, 0]), (cd (Tryz.f116.body.getD .skip) [1, 1, 1, 1, 0, 1, 0, 0, 1, 0]), (cd (Tryz.f116.body.getD .skip) [1, 1, 1, 1, 0, 1, 0, 0, 1, 1, 0]), (cd (Tryz.f116.body.getD .skip) [1, 1, 1, 1, 0, 1, 0, 0, 1, 1, 1])]) (N := (fun s w => B1 [s 2, s 3, s 35, s 36, s 37] w)) (N' := (fun s w => B1 [s 2, s 3, s 35, s 36, s 37] w)) (X := (fun i => (bif Nat.beq i 0 then (fun s w => s116_p1 K (s 2) (s 3) w) else (fun _ _ => False)))) (X' := (fun i => (bif Nat.beq i 0 then (s116_p1_den K) else (fun _ _ => False)))) (R := s116_R K) (s := s) (w := w) (p := s116_p2 K B1 (s 2) (s 3) (s 35) (s 36) (s 37) w) (q := s116_p2_den K (fun s w => B1 [s 2, s 3, s 35, s 36, s 37] w) s w) tr_id (fun i => (tr_bif (fun s w h => s116_p1_ok K s w @h) tr_id)) (by kernel_rfl) (by kernel_rfl) @h
def s116_p3_F (K : Value → World → Prop) (B1 : List Value → World → Prop) (l : List Value) (w : World) : Prop :=
  match l with
  | [t2, t3, t35, t36, t37] => s116_p2 K B1 t2 t3 t35 t36 t37 w
  | _ => False
theorem s116_p3_Fe {K : Value → World → Prop} {B1 : List Value → World → Prop} {t2 t3 t35 t36 t37 : Value} {w : World} : s116_p3_F K B1 [t2, t3, t35, t36, t37] w = s116_p2 K B1 t2 t3 t35 t36 t37 w := by kernel_rfl
def s116_p3 (K : Value → World → Prop) (t2 t3 t35 t36 t37 : Value) (w : World) : Prop :=
  LoopL (s116_p3_F K) [t2, t3, t35, t36, t37] w
def s116_p3_den (K : Value → World → Prop) : (Nat → Value) → World → Prop := fun s w => LoopP (fun M1 s w => s116_p2_den K M1 s w) s w
theorem s116_p3_ok (K : Value → World → Prop) (s : Nat → Value) (w : World) (h : s116_p3 K (s 2) (s 3) (s 35) (s 36) (s 37) w) : Tr (s116_p3_den K s w) :=
  tr_loop (G := fun N' s w => s116_p2_den K N' s w) (F := s116_p3_F K) (sel := fun s => [s 2, s 3, s 35, s 36, s 37]) (s := s) (w := w) (p := s116_p3 K (s 2) (s 3) (s 35) (s 36) (s 37) w) (q := s116_p3_den K s w) (fun B s w h => s116_p2_ok K B s w @h) (by kernel_rfl) (by kernel_rfl) @h
def s116_p4 (K : Value → World → Prop) (t2 t3 t11 : Value) (w : World) : Prop :=
  ifb t11
  (K (.bool false) w)
  (fd 2 t3 (fun t12 w =>
  ld1 t12 (fun t13 w =>
  fd 3 t2 (fun t14 w =>
  ld1 t14 (fun t15 w =>
  boI .gtr t13 t15 (fun t16 w =>
  gd t16 false (fd 3 t3) (fun t18 w =>
  gd t16 false (ld1 t18) (fun t19 w =>
  gd t16 false (lnS t19) (fun t20 w =>
  gd t16 false (fd 10 t2) (fun t21 w =>
  gd t16 false (ld1 t21) (fun t22 w =>
  gd t16 false (boI .gtr t20 t22) (fun t23 w =>
  pk t16 (.bool true) t23 (fun t24 w =>
  ifb t24
  (K (.bool false) w)
  (fd 1 t3 (fun t25 w =>
  ld1 t25 (fun t26 w =>
  fd 2 t3 (fun t27 w =>
  ld1 t27 (fun t28 w =>
  fd 3 t3 (fun t29 w =>
  ld1 t29 (fun t30 w =>
  lnS t30 (fun t31 w =>
  boI .add t28 t31 (fun t32 w =>
  boI .lss t26 t32 (fun t33 w =>
  ifb t33
  (K (.bool false) w)
  (fd 3 t3 (fun t34 w =>
  ld1 t34 (fun t35 w =>
  lnS t35 (fun t36 w =>
  s116_p3 K t2 t3 t35 t36 (.int .i64 0) w) w) w) w)) w) w) w) w) w) w) w) w) w)) w) w) w) w) w) w) w) w) w) w) w) w)
def s116_p4_den (K : Value → World → Prop) : (Nat → Value) → World → Prop := denL Tryz.prog [(cd (Tryz.f116.body.getD .skip) [1, 0, 1]), (cd (Tryz.f116.body.getD .skip) [1, 1, 0, 0]), (cd (Tryz.f116.body.getD .skip) [1, 1, 0, 1]), (cd (Tryz.f116.body.getD .skip) [1, 1, 1, 0, 0]), (cd (Tryz.f116.body.getD .skip) [1, 1, 1, 0, 1]), (cd (Tryz.f116.body.getD .skip) [1, 1, 1, 1, 0, 0])] (s116_p3_den K) (fun i => (fun _ _ => False)) (s116_R K)
theorem s116_p4_ok (K : Value → World → Prop) (s : Nat → Value) (w : World) (h : s116_p4 K (s 2) (s 3) (s 11) w) : Tr (s116_p4_den K s w) :=
  tr_simple (P := Tryz.prog) (codes := [(cd (Tryz.f116.body.getD .skip) [1, 0, 1]), (cd (Tryz.f116.body.getD .skip) [1, 1, 0, 0]), (cd (Tryz.f116.body.getD .skip) [1, 1, 0, 1]), (cd (Tryz.f116.body.getD .skip) [1, 1, 1, 0, 0]), (cd (Tryz.f116.body.getD .skip) [1, 1, 1, 0, 1]), (cd (Tryz.f116.body.getD .skip) [1, 1, 1, 1, 0, 0])]) (N := (fun s w => s116_p3 K (s 2) (s 3) (s 35) (s 36) (s 37) w)) (N' := (s116_p3_den K)) (X := (fun i => (fun _ _ => False))) (X' := (fun i => (fun _ _ => False))) (R := s116_R K) (s := s) (w := w) (p := s116_p4 K (s 2) (s 3) (s 11) w) (q := s116_p4_den K s w) (fun s w h => s116_p3_ok K s w @h) (fun i => tr_id) (by kernel_rfl) (by kernel_rfl) @h
def s116_p5_d (K : Value → World → Prop) (t2 t3 : Value) (w0 w : World) : Prop :=
  fd 0 t3 (fun t7 _ =>
  ld1 t7 (fun t8 _ =>
  ldn 14 t2 (fun t9 _ =>
  cl Tryz.prog 158 #[t9] (fun t10 w =>
  Below w0.heap.size w0 w ∧
  boI .neq t8 t10 (fun t11 w =>
  s116_p4 K t2 t3 t11 w) w) w) w0) w0) w0
def s116_p5 (K : Value → World → Prop) (t2 t3 : Value) (w : World) : Prop := s116_p5_d K t2 t3 (drw w) (drw w)
def s116_p5_den (K : Value → World → Prop) : (Nat → Value) → World → Prop := denL Tryz.prog [(cd (Tryz.f116.body.getD .skip) [1, 0, 0])] (s116_p4_den K) (fun i => (fun _ _ => False)) (s116_R K)
theorem s116_p5_ok (K : Value → World → Prop) (s : Nat → Value) (w : World) (h : s116_p5 K (s 2) (s 3) w) : Tr (s116_p5_den K s w) :=
  tr_draw (P := Tryz.prog) (ops := (ro (cd (Tryz.f116.body.getD .skip) [1, 0, 0]))) (ms := [0, 1, 0, 4, 15]) (cs := [0, 1, 2]) (N := (fun s w => s116_p4 K (s 2) (s 3) (s 11) w)) (N' := (s116_p4_den K)) (s := s) (w := w) (p := s116_p5 K (s 2) (s 3) w) (q := s116_p5_den K s w) (by kernel_rfl) (by kernel_rfl) (fun s w h => s116_p4_ok K s w @h) (by kernel_rfl) (by kernel_rfl) @h
def s116_p6 (K : Value → World → Prop) (t0 t1 : Value) (w : World) : Prop :=
  nw 34 (t0).cells (fun t2 w =>
  nw 152 (t1).cells (fun t3 w =>
  s116_p5 K t2 t3 w) w) w
def s116_p6_den (K : Value → World → Prop) : (Nat → Value) → World → Prop := denL Tryz.prog [(cd (Tryz.f116.body.getD .skip) [0])] (s116_p5_den K) (fun i => (fun _ _ => False)) (s116_R K)
theorem s116_p6_ok (K : Value → World → Prop) (s : Nat → Value) (w : World) (h : s116_p6 K (s 0) (s 1) w) : Tr (s116_p6_den K s w) :=
  tr_simple (P := Tryz.prog) (codes := [(cd (Tryz.f116.body.getD .skip) [0])]) (N := (fun s w => s116_p5 K (s 2) (s 3) w)) (N' := (s116_p5_den K)) (X := (fun i => (fun _ _ => False))) (X' := (fun i => (fun _ _ => False))) (R := s116_R K) (s := s) (w := w) (p := s116_p6 K (s 0) (s 1) w) (q := s116_p6_den K s w) (fun s w h => s116_p5_ok K s w @h) (fun i => tr_id) (by kernel_rfl) (by kernel_rfl) @h
/-- the call, from the text -/
theorem c116 (t0 t1 : Value) {K : Value → World → Prop} {w : World} (h : s116_p6 K t0 t1 w) : cl Tryz.prog 116 #[t0, t1] K w :=
  calls_of_tr (c := (Tryz.f116.body.getD .skip)) (fn := Tryz.f116) (q := s116_p6_den K (st0 #[t0, t1]) w) Tryz.func116 (by kernel_rfl) (by kernel_rfl) (Nat.le_of_ble_eq_true (by kernel_rfl)) (by kernel_rfl) (by kernel_rfl) (s116_p6_ok K (st0 #[t0, t1]) w @h)

/-! ### function 159 : e2e.engine.checkRecord -/
def s159_R (K : Value → World → Prop) (s : Nat → Value) (w : World) : Prop := retv Tryz.prog s Tryz.f159.results.toList (fun vs => K (pack vs) w) w
def s159_p1 (K : Value → World → Prop) (t1 t3 t5 : Value) (w : World) : Prop :=
  fd 4 t5 (fun t47 w =>
  ld1 t47 (fun t48 w =>
  boI .eql t48 (.int .i64 0) (fun t49 w =>
  ifb t49
  (ldn 14 t3 (fun t50 w =>
  ldn 7 t5 (fun t52 w =>
  cl Tryz.prog 195 #[t50, t1, t52] (fun t53 w =>
  K t53 w) w) w) w)
  (ldn 14 t3 (fun t54 w =>
  ldn 7 t5 (fun t56 w =>
  cl Tryz.prog 196 #[t54, t1, t56] (fun t57 w =>
  K t57 w) w) w) w)) w) w) w
def s159_p1_den (K : Value → World → Prop) : (Nat → Value) → World → Prop := denL Tryz.prog [(cd (Tryz.f159.body.getD .skip) [1, 1, 1, 0, 0]), (cd (Tryz.f159.body.getD .skip) [1, 1, 1, 0, 1]), (cd (Tryz.f159.body.getD .skip) [1, 1, 1, 1, 0]), (cd (Tryz.f159.body.getD .skip) [1, 1, 1, 1, 1])] (fun _ _ => False) (fun i => (fun _ _ => False)) (s159_R K)
theorem s159_p1_ok (K : Value → World → Prop) (s : Nat → Value) (w : World) (h : s159_p1 K (s 1) (s 3) (s 5) w) : Tr (s159_p1_den K s w) :=
  tr_simple (P := Tryz.prog) (codes := [(cd (Tryz.f159.body.getD .skip) [1, 1, 1, 0, 0]), (cd (Tryz.f159.body.getD .skip) [1, 1, 1, 0, 1]), (cd (Tryz.f159.body.getD .skip) [1, 1, 1, 1, 0]), (cd (Tryz.f159.body.getD .skip) [1, 1, 1, 1, 1])]) (N := (fun _ _ => False)) (N' := (fun _ _ => False)) (X := (fun i => (fun _ _ => False))) (X' := (fun i => (fun _ _ => False))) (R := s159_R K) (s := s) (w := w) (p := s159_p1 K (s 1) (s 3) (s 5) w) (q := s159_p1_den K s w) tr_id (fun i => tr_id) (by kernel_rfl) (by kernel_rfl) @h
def s159_p2 (K : Value → World → Prop) (B1 : List Value → World → Prop) (t1 t3 t5 t25 t26 t27 : Value) (w : World) : Prop :=
  boI .lss t27 t26 (fun t28 w =>
  ifb t28
  (ixs 2 t25 t27 (fun t29 w =>
  ldn 2 t29 (fun t30 w =>
  nw 88 #[(.int .i64 0), (.int .i64 0)] (fun t8 w =>
  stn 2 t8 t30 (fun w =>
  fd 0 t8 (fun t31 w =>
  ld1 t31 (fun t32 w =>
  fd 0 t3 (fun t33 w =>
  ld1 t33 (fun t34 w =>
  lnS t34 (fun t35 w =>
  boI .geq t32 t35 (fun t36 w =>
  gd t36 false (fd 1 t8) (fun t38 w =>
  gd t36 false (ld1 t38) (fun t39 w =>
  gd t36 false (fun K w => K t1 w) (fun t40 w =>
  gd t36 false (boI .sub t39 t40) (fun t41 w =>
  gd t36 false (fd 2 t3) (fun t42 w =>
  gd t36 false (ld1 t42) (fun t43 w =>
  gd t36 false (boI .geq t41 t43) (fun t44 w =>
  pk t36 (.bool true) t44 (fun t45 w =>
  ifb t45
  (K (.bool false) w)
  (boI .add t27 (.int .i64 1) (fun t46 w =>
  B1 [t1, t3, t5, t25, t26, t46] w) w)) w) w) w) w) w) w) w) w) w) w) w) w) w) w) w) w) w) w)
  (s159_p1 K t1 t3 t5 w)) w
def s159_p2_den (K : Value → World → Prop) (M1 : (Nat → Value) → World → Prop) : (Nat → Value) → World → Prop := denL Tryz.prog [(cd (Tryz.f159.body.getD .skip) [1, 1, 0, 1, 0, 0, 0]), (cd (Tryz.f159.body.getD .skip) [1, 1, 0, 1, 0, 0, 1, 0]), (cd (Tryz.f159.body.getD .skip) [1, 1, 0, 1, 0, 0, 1, 1, 0]), (cd (Tryz.f159.body.getD .skip) [1, 1, 0, 1, 0, 0, 1, 1, 1])] M1 (fun i => (bif Nat.beq i 0 then (s159_p1_den K) else (fun _ _ => False))) (s159_R K)
theorem s159_p2_ok (K : Value → World → Prop) (B1 : List Value → World → Prop) (s : Nat → Value) (w : World) (h : s159_p2 K B1 (s 1) (s 3) (s 5) (s 25) (s 26) (s 27) w) : Tr (s159_p2_den K (fun s w => B1 [s 1, s 3, s 5, s 25, s 26, s 27] w) s w) :=
  tr_simple (P := Tryz.prog) (codes := [(cd (Tryz.f159.body.getD .skip) [1, 1, 0, 1, 0, 0, 0]), (cd (Tryz.f159.body.getD .skip) [1, 1, 0, 1, 0, 0, 1, 0]), (cd (Tryz.f159.body.getD .skip) [1, 1, 0, 1, 0, 0, 1, 1, 0]), (cd (Tryz.f159.body.getD .skip) [1, 1, 0, 1, 0, 0, 1, 1, 1])]) (N := (fun s w => B1 [s 1, s 3, s 5, s 25, s 26, s 27] w)) (N' := (fun s w => B1 [s 1, s 3, s 5, s 25, s 26, s 27] w)) (X := (fun i => (bif Nat.beq i 0 then (fun s w => s159_p1 K (s 1) (s 3) (s 5) w) else (fun _ _ => False)))) (X' := (fun i => (bif Nat.beq i 0 then (s159_p1_den K) else (fun _ _ => False)))) (R := s159_R K) (s := s) (w := w) (p := s159_p2 K B1 (s 1) (s 3) (s 5) (s 25) (s 26) (s 27) w) (q := s159_p2_den K (fun s w => B1 [s 1, s 3, s 5, s 25, s 26, s 27] w) s w) tr_id (fun i => (tr_bif (fun s w h => s159_p1_ok K s w @h) tr_id)) (by kernel_rfl) (by kernel_rfl) @h
def s159_p3_F (K : Value → World → Prop) (B1 : List Value → World → Prop) (l : List Value) (w : World) : Prop :=
  match l with
  | [t1, t3, t5, t25, t26, t27] => s159_p2 K B1 t1 t3 t5 t25 t26 t27 w
  | _ => False
theorem s159_p3_Fe {K : Value → World → Prop} {B1 : List Value → World → Prop} {t1 t3 t5 t25 t26 t27 : Value} {w : World} : s159_p3_F K B1 [t1, t3, t5, t25, t26, t27] w = s159_p2 K B1 t1 t3 t5 t25 t26 t27 w := by kernel_rfl
def s159_p3 (K : Value → World → Prop) (t1 t3 t5 t25 t26 t27 : Value) (w : World) : Prop :=
  LoopL (s159_p3_F K) [t1, t3, t5, t25, t26, t27] w
def s159_p3_den (K : Value → World → Prop) : (Nat → Value) → World → Prop := fun s w => LoopP (fun M1 s w => s159_p2_den K M1 s w) s w
theorem s159_p3_ok (K : Value → World → Prop) (s : Nat → Value) (w : World) (h : s159_p3 K (s 1) (s 3) (s 5) (s 25) (s 26) (s 27) w) : Tr (s159_p3_den K s w) :=
  tr_loop (G := fun N' s w => s159_p2_den K N' s w) (F := s159_p3_F K) (sel := fun s => [s 1, s 3, s 5, s 25, s 26, s 27]) (s := s) (w := w) (p := s159_p3 K (s 1) (s 3) (s 5) (s 25) (s 26) (s 27) w) (q := s159_p3_den K s w) (fun B s w h => s159_p2_ok K B s w @h) (by kernel_rfl) (by kernel_rfl) @h
def s159_p4 (K : Value → World → Prop) (t0 t1 t2 : Value) (w : World) : Prop :=
  nw 34 (t0).cells (fun t3 w =>
  nw 85 (t2).cells (fun t5 w =>
  fd 2 t5 (fun t9 w =>
  ld1 t9 (fun t10 w =>
  boI .geq t10 (.int .i64 3) (fun t11 w =>
  gd t11 false (fd 3 t5) (fun t13 w =>
  gd t11 false (ld1 t13) (fun t14 w =>
  gd t11 false (boI .lss t14 (.int .i64 1)) (fun t15 w =>
  pk t11 (.bool true) t15 (fun t16 w =>
  gd t16 false (fd 3 t5) (fun t18 w =>
  gd t16 false (ld1 t18) (fun t19 w =>
  gd t16 false (fd 4 t3) (fun t20 w =>
  gd t16 false (ld1 t20) (fun t21 w =>
  gd t16 false (boI .gtr t19 t21) (fun t22 w =>
  pk t16 (.bool true) t22 (fun t23 w =>
  ifb t23
  (K (.bool false) w)
  (fd 6 t5 (fun t24 w =>
  ld1 t24 (fun t25 w =>
  lnS t25 (fun t26 w =>
  s159_p3 K t1 t3 t5 t25 t26 (.int .i64 0) w) w) w) w)) w) w) w) w) w) w) w) w) w) w) w) w) w) w) w
def s159_p4_den (K : Value → World → Prop) : (Nat → Value) → World → Prop := denL Tryz.prog [(cd (Tryz.f159.body.getD .skip) [0]), (cd (Tryz.f159.body.getD .skip) [1, 0, 0]), (cd (Tryz.f159.body.getD .skip) [1, 0, 1]), (cd (Tryz.f159.body.getD .skip) [1, 1, 0, 0])] (s159_p3_den K) (fun i => (fun _ _ => False)) (s159_R K)
theorem s159_p4_ok (K : Value → World → Prop) (s : Nat → Value) (w : World) (h : s159_p4 K (s 0) (s 1) (s 2) w) : Tr (s159_p4_den K s w) :=
  tr_simple (P := Tryz.prog) (codes := [(cd (Tryz.f159.body.getD .skip) [0]), (cd (Tryz.f159.body.getD .skip) [1, 0, 0]), (cd (Tryz.f159.body.getD .skip) [1, 0, 1]), (cd (Tryz.f159.body.getD .skip) [1, 1, 0, 0])]) (N := (fun s w => s159_p3 K (s 1) (s 3) (s 5) (s 25) (s 26) (s 27) w)) (N' := (s159_p3_den K)) (X := (fun i => (fun _ _ => False))) (X' := (fun i => (fun _ _ => False))) (R := s159_R K) (s := s) (w := w) (p := s159_p4 K (s 0) (s 1) (s 2) w) (q := s159_p4_den K s w) (fun s w h => s159_p3_ok K s w @h) (fun i => tr_id) (by kernel_rfl) (by kernel_rfl) @h
/-- the call, from the text -/
theorem c159 (t0 t1 t2 : Value) {K : Value → World → Prop} {w : World} (h : s159_p4 K t0 t1 t2 w) : cl Tryz.prog 159 #[t0, t1, t2] K w :=
  calls_of_tr (c := (Tryz.f159.body.getD .skip)) (fn := Tryz.f159) (q := s159_p4_den K (st0 #[t0, t1, t2]) w) Tryz.func159 (by kernel_rfl) (by kernel_rfl) (Nat.le_of_ble_eq_true (by kernel_rfl)) (by kernel_rfl) (by kernel_rfl) (s159_p4_ok K (st0 #[t0, t1, t2]) w @h)

/-! ### function 195 : e2e.engine.checkBooking -/
def s195_R (K : Value → World → Prop) (s : Nat → Value) (w : World) : Prop := retv Tryz.prog s Tryz.f195.results.toList (fun vs => K (pack vs) w) w
def s195_p1 (K : Value → World → Prop) (t0 t1 t2 : Value) (w : World) : Prop :=
  nw 34 (t0).cells (fun t3 w =>
  nw 85 (t2).cells (fun t5 w =>
  fd 6 t5 (fun t8 w =>
  ld1 t8 (fun t9 w =>
  lnS t9 (fun t10 w =>
  boI .lss t10 (.int .i64 1) (fun t11 w =>
  gd t11 false (fd 6 t5) (fun t13 w =>
  gd t11 false (ld1 t13) (fun t14 w =>
  gd t11 false (lnS t14) (fun t15 w =>
  gd t11 false (fd 5 t3) (fun t16 w =>
  gd t11 false (ld1 t16) (fun t17 w =>
  gd t11 false (boI .gtr t15 t17) (fun t18 w =>
  pk t11 (.bool true) t18 (fun t19 w =>
  ifb t19
  (K (.bool false) w)
  (fd 5 t5 (fun t20 w =>
  ld1 t20 (fun t21 w =>
  fd 6 t3 (fun t22 w =>
  ld1 t22 (fun t23 w =>
  boI .lss t21 t23 (fun t24 w =>
  gd t24 false (fd 5 t5) (fun t26 w =>
  gd t24 false (ld1 t26) (fun t27 w =>
  gd t24 false (fd 6 t3) (fun t28 w =>
  gd t24 false (ld1 t28) (fun t29 w =>
  gd t24 false (boI .sub t27 t29) (fun t30 w =>
  gd t24 false (fun K w => K t1 w) (fun t31 w =>
  gd t24 false (boI .gtr t30 t31) (fun t32 w =>
  pk t24 (.bool true) t32 (fun t33 w =>
  ifb t33
  (K (.bool false) w)
  (fd 6 t5 (fun t34 w =>
  ld1 t34 (fun t35 w =>
  ixs 2 t35 (.int .i64 0) (fun t36 w =>
  fd 1 t36 (fun t37 w =>
  ld1 t37 (fun t38 w =>
  fd 1 t5 (fun t39 w =>
  ld1 t39 (fun t40 w =>
  boI .eql t40 (.int .i64 1) (fun t42 w =>
  ifb t42
  (fd 5 t5 (fun t43 w =>
  ld1 t43 (fun t44 w =>
  boI .gtr t44 t1 (fun t46 w =>
  K t46 w) w) w) w)
  (boI .eql t40 (.int .i64 6) (fun t48 w =>
  ifb t48
  (fd 5 t5 (fun t49 w =>
  ld1 t49 (fun t50 w =>
  boI .leq t50 t1 (fun t52 w =>
  K t52 w) w) w) w)
  (boI .eql t40 (.int .i64 2) (fun t54 w =>
  ifb t54
  (fd 7 t3 (fun t56 w =>
  ld1 t56 (fun t57 w =>
  boI .add t38 t57 (fun t58 w =>
  boI .gtr t58 t1 (fun t60 w =>
  K t60 w) w) w) w) w)
  (boI .eql t40 (.int .i64 5) (fun t62 w =>
  ifb t62
  (fd 7 t3 (fun t64 w =>
  ld1 t64 (fun t65 w =>
  boI .add t38 t65 (fun t66 w =>
  boI .leq t66 t1 (fun t68 w =>
  K t68 w) w) w) w) w)
  (boI .eql t40 (.int .i64 3) (fun t70 w =>
  ifb t70
  (boI .leq t38 t1 (fun t73 w =>
  K t73 w) w)
  (boI .eql t40 (.int .i64 4) (fun t75 w =>
  ifb t75
  (K (.bool true) w)
  (K (.bool false) w)) w)) w)) w)) w)) w)) w) w) w) w) w) w) w) w)) w) w) w) w) w) w) w) w) w) w) w) w) w)) w) w) w) w) w) w) w) w) w) w) w) w) w
def s195_p1_den (K : Value → World → Prop) : (Nat → Value) → World → Prop := denL Tryz.prog [(cd (Tryz.f195.body.getD .skip) [0]), (cd (Tryz.f195.body.getD .skip) [1, 0, 0]), (cd (Tryz.f195.body.getD .skip) [1, 0, 1]), (cd (Tryz.f195.body.getD .skip) [1, 1, 0, 0]), (cd (Tryz.f195.body.getD .skip) [1, 1, 0, 1]), (cd (Tryz.f195.body.getD .skip) [1, 1, 1, 0]), (cd (Tryz.f195.body.getD .skip) [1, 1, 1, 1, 0, 0]), (cd (Tryz.f195.body.getD .skip) [1, 1, 1, 1, 0, 1]), (cd (Tryz.f195.body.getD .skip) [1, 1, 1, 1, 1, 0]), (cd (Tryz.f195.body.getD .skip) [1, 1, 1, 1, 1, 1])] (fun _ _ => False) (fun i => (fun _ _ => False)) (s195_R K)
theorem s195_p1_ok (K : Value → World → Prop) (s : Nat → Value) (w : World) (h : s195_p1 K (s 0) (s 1) (s 2) w) : Tr (s195_p1_den K s w) :=
  tr_simple (P := Tryz.prog) (codes := [(cd (Tryz.f195.body.getD .skip) [0]), (cd (Tryz.f195.body.getD .skip) [1, 0, 0]), (cd (Tryz.f195.body.getD .skip) [1, 0, 1]), (cd (Tryz.f195.body.getD .skip) [1, 1, 0, 0]), (cd (Tryz.f195.body.getD .skip) [1, 1, 0, 1]), (cd (Tryz.f195.body.getD .skip) [1, 1, 1, 0]), (cd (Tryz.f195.body.getD .skip) [1, 1, 1, 1, 0, 0]), (cd (Tryz.f195.body.getD .skip) [1, 1, 1, 1, 0, 1]), (cd (Tryz.f195.body.getD .skip) [1, 1, 1, 1, 1, 0]), (cd (Tryz.f195.body.getD .skip) [1, 1, 1, 1, 1, 1])]) (N := (fun _ _ => False)) (N' := (fun _ _ => False)) (X := (fun i => (fun _ _ => False))) (X' := (fun i => (fun _ _ => False))) (R := s195_R K) (s := s) (w := w) (p := s195_p1 K (s 0) (s 1) (s 2) w) (q := s195_p1_den K s w) tr_id (fun i => tr_id) (by kernel_rfl) (by kernel_rfl) @h
/-- the call, from the text -/
theorem c195 (t0 t1 t2 : Value) {K : Value → World → Prop} {w : World} (h : s195_p1 K t0 t1 t2 w) : cl Tryz.prog 195 #[t0, t1, t2] K w :=
  calls_of_tr (c := (Tryz.f195.body.getD .skip)) (fn := Tryz.f195) (q := s195_p1_den K (st0 #[t0, t1, t2]) w) Tryz.func195 (by kernel_rfl) (by kernel_rfl) (Nat.le_of_ble_eq_true (by kernel_rfl)) (by kernel_rfl) (by kernel_rfl) (s195_p1_ok K (st0 #[t0, t1, t2]) w @h)

/-! ### function 196 : e2e.engine.checkStandby -/
def s196_R (K : Value → World → Prop) (s : Nat → Value) (w : World) : Prop := retv Tryz.prog s Tryz.f196.results.toList (fun vs => K (pack vs) w) w
def s196_p1 (K : Value → World → Prop) (t1 t3 t5 t45 : Value) (w : World) : Prop :=
  ifb t45
  (K (.bool false) w)
  (fd 6 t5 (fun t46 w =>
  ld1 t46 (fun t47 w =>
  ixs 2 t47 (.int .i64 0) (fun t48 w =>
  fd 1 t48 (fun t49 w =>
  ld1 t49 (fun t50 w =>
  fd 1 t5 (fun t51 w =>
  ld1 t51 (fun t52 w =>
  boI .eql t52 (.int .i64 8) (fun t54 w =>
  ifb t54
  (fd 8 t3 (fun t56 w =>
  ld1 t56 (fun t57 w =>
  boI .add t50 t57 (fun t58 w =>
  boI .gtr t58 t1 (fun t60 w =>
  K t60 w) w) w) w) w)
  (boI .eql t52 (.int .i64 9) (fun t62 w =>
  ifb t62
  (fd 8 t3 (fun t64 w =>
  ld1 t64 (fun t65 w =>
  boI .add t50 t65 (fun t66 w =>
  boI .leq t66 t1 (fun t68 w =>
  K t68 w) w) w) w) w)
  (boI .eql t52 (.int .i64 3) (fun t70 w =>
  ifb t70
  (boI .leq t50 t1 (fun t73 w =>
  K t73 w) w)
  (boI .eql t52 (.int .i64 4) (fun t75 w =>
  ifb t75
  (K (.bool true) w)
  (K (.bool false) w)) w)) w)) w)) w) w) w) w) w) w) w) w)
def s196_p1_den (K : Value → World → Prop) : (Nat → Value) → World → Prop := denL Tryz.prog [(cd (Tryz.f196.body.getD .skip) [1, 1, 1, 0, 1]), (cd (Tryz.f196.body.getD .skip) [1, 1, 1, 1, 0]), (cd (Tryz.f196.body.getD .skip) [1, 1, 1, 1, 1, 0, 0]), (cd (Tryz.f196.body.getD .skip) [1, 1, 1, 1, 1, 0, 1]), (cd (Tryz.f196.body.getD .skip) [1, 1, 1, 1, 1, 1, 0]), (cd (Tryz.f196.body.getD .skip) [1, 1, 1, 1, 1, 1, 1])] (fun _ _ => False) (fun i => (fun _ _ => False)) (s196_R K)
theorem s196_p1_ok (K : Value → World → Prop) (s : Nat → Value) (w : World) (h : s196_p1 K (s 1) (s 3) (s 5) (s 45) w) : Tr (s196_p1_den K s w) :=
  tr_simple (P := Tryz.prog) (codes := [(cd (Tryz.f196.body.getD .skip) [1, 1, 1, 0, 1]), (cd (Tryz.f196.body.getD .skip) [1, 1, 1, 1, 0]), (cd (Tryz.f196.body.getD .skip) [1, 1, 1, 1, 1, 0, 0]), (cd (Tryz.f196.body.getD .skip) [1, 1, 1, 1, 1, 0, 1]), (cd (Tryz.f196.body.getD .skip) [1, 1, 1, 1, 1, 1, 0]), (cd (Tryz.f196.body.getD .skip) [1, 1, 1, 1, 1, 1, 1])]) (N := (fun _ _ => False)) (N' := (fun _ _ => False)) (X := (fun i => (fun _ _ => False))) (X' := (fun i => (fun _ _ => False))) (R := s196_R K) (s := s) (w := w) (p := s196_p1 K (s 1) (s 3) (s 5) (s 45) w) (q := s196_p1_den K s w) tr_id (fun i => tr_id) (by kernel_rfl) (by kernel_rfl) @h
def s196_p2_d (K : Value → World → Prop) (t1 t3 t5 : Value) (w0 w : World) : Prop :=
  fd 6 t5 (fun t31 _ =>
  ld1 t31 (fun t32 _ =>
  lnS t32 (fun t33 _ =>
  boI .neq t33 (.int .i64 1) (fun t34 _ =>
  gd t34 false (fd 6 t5) (fun t36 _ =>
  gd t34 false (ld1 t36) (fun t37 _ =>
  gd t34 false (ixs 2 t37 (.int .i64 0)) (fun t38 _ =>
  gd t34 false (fd 0 t38) (fun t39 _ =>
  gd t34 false (ld1 t39) (fun t40 _ =>
  gd t34 false (fd 4 t5) (fun t41 _ =>
  gd t34 false (ld1 t41) (fun t42 _ =>
  gd t34 false (boI .sub t42 (.int .i64 1)) (fun t43 _ =>
  gd t34 false (boI .neq t40 t43) (fun t44 _ =>
  pk t34 (.bool true) t44 (fun t45 _ =>
  s196_p1 K t1 t3 t5 t45 w) w0) w0) w0) w0) w0) w0) w0) w0) w0) w0) w0) w0) w0) w0
def s196_p2 (K : Value → World → Prop) (t1 t3 t5 : Value) (w : World) : Prop := s196_p2_d K t1 t3 t5 (drw w) (drw w)
def s196_p2_den (K : Value → World → Prop) : (Nat → Value) → World → Prop := denL Tryz.prog [(cd (Tryz.f196.body.getD .skip) [1, 1, 1, 0, 0])] (s196_p1_den K) (fun i => (fun _ _ => False)) (s196_R K)
theorem s196_p2_ok (K : Value → World → Prop) (s : Nat → Value) (w : World) (h : s196_p2 K (s 1) (s 3) (s 5) w) : Tr (s196_p2_den K s w) :=
  tr_draw (P := Tryz.prog) (ops := (ro (cd (Tryz.f196.body.getD .skip) [1, 1, 1, 0, 0]))) (ms := [0, 1, 3, 7, 15, 31, 63, 127, 255, 511, 31, 1055, 3103, 8191, 16383]) (cs := [0, 1, 2, 3, 4, 5, 6, 7, 8, 9, 10, 11, 12, 13, 14]) (N := (fun s w => s196_p1 K (s 1) (s 3) (s 5) (s 45) w)) (N' := (s196_p1_den K)) (s := s) (w := w) (p := s196_p2 K (s 1) (s 3) (s 5) w) (q := s196_p2_den K s w) (by kernel_rfl) (by kernel_rfl) (fun s w h => s196_p1_ok K s w @h) (by kernel_rfl) (by kernel_rfl) @h
def s196_p3 (K : Value → World → Prop) (t0 t1 t2 : Value) (w : World) : Prop :=
  nw 34 (t0).cells (fun t3 w =>
  nw 85 (t2).cells (fun t5 w =>
  fd 4 t5 (fun t8 w =>
  ld1 t8 (fun t9 w =>
  fd 0 t3 (fun t10 w =>
  ld1 t10 (fun t11 w =>
  lnS t11 (fun t12 w =>
  boI .gtr t9 t12 (fun t13 w =>
  gd t13 false (fd 5 t5) (fun t15 w =>
  gd t13 false (ld1 t15) (fun t16 w =>
  gd t13 false (boI .neq t16 (.int .i64 0)) (fun t17 w =>
  pk t13 (.bool true) t17 (fun t18 w =>
  ifb t18
  (K (.bool false) w)
  (fd 6 t5 (fun t19 w =>
  ld1 t19 (fun t20 w =>
  lnS t20 (fun t21 w =>
  boI .eql t21 (.int .i64 0) (fun t22 w =>
  ifb t22
  (fd 1 t5 (fun t23 w =>
  ld1 t23 (fun t24 w =>
  boI .eql t24 (.int .i64 7) (fun t25 w =>
  gd t25 false (fd 1 t5) (fun t27 w =>
  gd t25 false (ld1 t27) (fun t28 w =>
  gd t25 false (boI .eql t28 (.int .i64 4)) (fun t29 w =>
  pk t25 (.bool true) t29 (fun t30 w =>
  K t30 w) w) w) w) w) w) w) w)
  (s196_p2 K t1 t3 t5 w)) w) w) w) w)) w) w) w) w) w) w) w) w) w) w) w) w
def s196_p3_den (K : Value → World → Prop) : (Nat → Value) → World → Prop := denL Tryz.prog [(cd (Tryz.f196.body.getD .skip) [0]), (cd (Tryz.f196.body.getD .skip) [1, 0, 0]), (cd (Tryz.f196.body.getD .skip) [1, 0, 1]), (cd (Tryz.f196.body.getD .skip) [1, 1, 0, 0]), (cd (Tryz.f196.body.getD .skip) [1, 1, 0, 1])] (s196_p2_den K) (fun i => (fun _ _ => False)) (s196_R K)
theorem s196_p3_ok (K : Value → World → Prop) (s : Nat → Value) (w : World) (h : s196_p3 K (s 0) (s 1) (s 2) w) : Tr (s196_p3_den K s w) :=
  tr_simple (P := Tryz.prog) (codes := [(cd (Tryz.f196.body.getD .skip) [0]), (cd (Tryz.f196.body.getD .skip) [1, 0, 0]), (cd (Tryz.f196.body.getD .skip) [1, 0, 1]), (cd (Tryz.f196.body.getD .skip) [1, 1, 0, 0]), (cd (Tryz.f196.body.getD .skip) [1, 1, 0, 1])]) (N := (fun s w => s196_p2 K (s 1) (s 3) (s 5) w)) (N' := (s196_p2_den K)) (X := (fun i => (fun _ _ => False))) (X' := (fun i => (fun _ _ => False))) (R := s196_R K) (s := s) (w := w) (p := s196_p3 K (s 0) (s 1) (s 2) w) (q := s196_p3_den K s w) (fun s w h => s196_p2_ok K s w @h) (fun i => tr_id) (by kernel_rfl) (by kernel_rfl) @h
/-- the call, from the text -/
theorem c196 (t0 t1 t2 : Value) {K : Value → World → Prop} {w : World} (h : s196_p3 K t0 t1 t2 w) : cl Tryz.prog 196 #[t0, t1, t2] K w :=
  calls_of_tr (c := (Tryz.f196.body.getD .skip)) (fn := Tryz.f196) (q := s196_p3_den K (st0 #[t0, t1, t2]) w) Tryz.func196 (by kernel_rfl) (by kernel_rfl) (Nat.le_of_ble_eq_true (by kernel_rfl)) (by kernel_rfl) (by kernel_rfl) (s196_p3_ok K (st0 #[t0, t1, t2]) w @h)

/-! ### function 160 : e2e.engine.checkLines -/
def s160_R (K : Value → World → Prop) (s : Nat → Value) (w : World) : Prop := retv Tryz.prog s Tryz.f160.results.toList (fun vs => K (pack vs) w) w
def s160_p1 (K : Value → World → Prop) (t5 t12 : Value) (w : World) : Prop :=
  boI .eql t12 t5 (fun t89 w =>
  K t89 w) w
def s160_p1_den (K : Value → World → Prop) : (Nat → Value) → World → Prop := denL Tryz.prog [(cd (Tryz.f160.body.getD .skip) [1, 1, 1, 1, 1, 1, 0]), (cd (Tryz.f160.body.getD .skip) [1, 1, 1, 1, 1, 1, 1])] (fun _ _ => False) (fun i => (fun _ _ => False)) (s160_R K)
theorem s160_p1_ok (K : Value → World → Prop) (s : Nat → Value) (w : World) (h : s160_p1 K (s 5) (s 12) w) : Tr (s160_p1_den K s w) :=
  tr_simple (P := Tryz.prog) (codes := [(cd (Tryz.f160.body.getD .skip) [1, 1, 1, 1, 1, 1, 0]), (cd (Tryz.f160.body.getD .skip) [1, 1, 1, 1, 1, 1, 1])]) (N := (fun _ _ => False)) (N' := (fun _ _ => False)) (X := (fun i => (fun _ _ => False))) (X' := (fun i => (fun _ _ => False))) (R := s160_R K) (s := s) (w := w) (p := s160_p1 K (s 5) (s 12) w) (q := s160_p1_den K s w) tr_id (fun i => tr_id) (by kernel_rfl) (by kernel_rfl) @h
def s160_p2 (K : Value → World → Prop) (B1 : List Value → World → Prop) (t5 t12 t75 t76 t77 : Value) (w : World) : Prop :=
  boI .add t77 (.int .i64 1) (fun t86 w =>
  B1 [t5, t12, t75, t76, t86] w) w
def s160_p2_den (K : Value → World → Prop) (M1 : (Nat → Value) → World → Prop) : (Nat → Value) → World → Prop := denL Tryz.prog [(cd (Tryz.f160.body.getD .skip) [1, 1, 1, 1, 1, 0, 1, 0, 0, 1, 1, 1])] M1 (fun i => (bif Nat.beq i 4 then (s160_p1_den K) else (fun _ _ => False))) (s160_R K)
theorem s160_p2_ok (K : Value → World → Prop) (B1 : List Value → World → Prop) (s : Nat → Value) (w : World) (h : s160_p2 K B1 (s 5) (s 12) (s 75) (s 76) (s 77) w) : Tr (s160_p2_den K (fun s w => B1 [s 5, s 12, s 75, s 76, s 77] w) s w) :=
  tr_simple (P := Tryz.prog) (codes := [(cd (Tryz.f160.body.getD .skip) [1, 1, 1, 1, 1, 0, 1, 0, 0, 1, 1, 1])]) (N := (fun s w => B1 [s 5, s 12, s 75, s 76, s 77] w)) (N' := (fun s w => B1 [s 5, s 12, s 75, s 76, s 77] w)) (X := (fun i => (bif Nat.beq i 4 then (fun s w => s160_p1 K (s 5) (s 12) w) else (fun _ _ => False)))) (X' := (fun i => (bif Nat.beq i 4 then (s160_p1_den K) else (fun _ _ => False)))) (R := s160_R K) (s := s) (w := w) (p := s160_p2 K B1 (s 5) (s 12) (s 75) (s 76) (s 77) w) (q := s160_p2_den K (fun s w => B1 [s 5, s 12, s 75, s 76, s 77] w) s w) tr_id (fun i => (tr_bif (fun s w h => s160_p1_ok K s w @h) tr_id)) (by kernel_rfl) (by kernel_rfl) @h
def s160_p3 (K : Value → World → Prop) (B1 : List Value → World → Prop) (t5 t12 t75 t76 t77 : Value) (w : World) : Prop :=
  boI .lss t77 t76 (fun t78 w =>
  ifb t78
  (ixs 7 t75 t77 (fun t79 w =>
  ldn 7 t79 (fun t80 w =>
  nw 85 #[(.int .i64 0), (.int .i64 0), (.int .i64 0), (.int .i64 0), (.int .i64 0), (.int .i64 0), (.slice none 0 0)] (fun t14 w =>
  stn 7 t14 t80 (fun w =>
  fd 1 t14 (fun t81 w =>
  ld1 t81 (fun t82 w =>
  boI .eql t82 (.int .i64 7) (fun t83 w =>
  ifb t83
  (boI .add t12 (.int .i64 1) (fun t85 w =>
  s160_p2 K B1 t5 t85 t75 t76 t77 w) w)
  (s160_p2 K B1 t5 t12 t75 t76 t77 w)) w) w) w) w) w) w) w)
  (s160_p1 K t5 t12 w)) w
def s160_p3_den (K : Value → World → Prop) (M1 : (Nat → Value) → World → Prop) : (Nat → Value) → World → Prop := denL Tryz.prog [(cd (Tryz.f160.body.getD .skip) [1, 1, 1, 1, 1, 0, 1, 0, 0, 0]), (cd (Tryz.f160.body.getD .skip) [1, 1, 1, 1, 1, 0, 1, 0, 0, 1, 0]), (cd (Tryz.f160.body.getD .skip) [1, 1, 1, 1, 1, 0, 1, 0, 0, 1, 1, 0])] (s160_p2_den K M1) (fun i => (bif Nat.beq i 4 then (s160_p1_den K) else (fun _ _ => False))) (s160_R K)
theorem s160_p3_ok (K : Value → World → Prop) (B1 : List Value → World → Prop) (s : Nat → Value) (w : World) (h : s160_p3 K B1 (s 5) (s 12) (s 75) (s 76) (s 77) w) : Tr (s160_p3_den K (fun s w => B1 [s 5, s 12, s 75, s 76, s 77] w) s w) :=
  tr_simple (P := Tryz.prog) (codes := [(cd (Tryz.f160.body.getD .skip) [1, 1, 1, 1, 1, 0, 1, 0, 0, 0]), (cd (Tryz.f160.body.getD .skip) [1, 1, 1, 1, 1, 0, 1, 0, 0, 1, 0]), (cd (Tryz.f160.body.getD .skip) [1, 1, 1, 1, 1, 0, 1, 0, 0, 1, 1, 0])]) (N := (fun s w => s160_p2 K B1 (s 5) (s 12) (s 75) (s 76) (s 77) w)) (N' := (s160_p2_den K (fun s w => B1 [s 5, s 12, s 75, s 76, s 77] w))) (X := (fun i => (bif Nat.beq i 4 then (fun s w => s160_p1 K (s 5) (s 12) w) else (fun _ _ => False)))) (X' := (fun i => (bif Nat.beq i 4 then (s160_p1_den K) else (fun _ _ => False)))) (R := s160_R K) (s := s) (w := w) (p := s160_p3 K B1 (s 5) (s 12) (s 75) (s 76) (s 77) w) (q := s160_p3_den K (fun s w => B1 [s 5, s 12, s 75, s 76, s 77] w) s w) (fun s w h => s160_p2_ok K B1 s w @h) (fun i => (tr_bif (fun s w h => s160_p1_ok K s w @h) tr_id)) (by kernel_rfl) (by kernel_rfl) @h
def s160_p4_F (K : Value → World → Prop) (B1 : List Value → World → Prop) (l : List Value) (w : World) : Prop :=
  match l with
  | [t5, t12, t75, t76, t77] => s160_p3 K B1 t5 t12 t75 t76 t77 w
  | _ => False
theorem s160_p4_Fe {K : Value → World → Prop} {B1 : List Value → World → Prop} {t5 t12 t75 t76 t77 : Value} {w : World} : s160_p4_F K B1 [t5, t12, t75, t76, t77] w = s160_p3 K B1 t5 t12 t75 t76 t77 w := by kernel_rfl
def s160_p4 (K : Value → World → Prop) (t5 t12 t75 t76 t77 : Value) (w : World) : Prop :=
  LoopL (s160_p4_F K) [t5, t12, t75, t76, t77] w
def s160_p4_den (K : Value → World → Prop) : (Nat → Value) → World → Prop := fun s w => LoopP (fun M1 s w => s160_p3_den K M1 s w) s w
theorem s160_p4_ok (K : Value → World → Prop) (s : Nat → Value) (w : World) (h : s160_p4 K (s 5) (s 12) (s 75) (s 76) (s 77) w) : Tr (s160_p4_den K s w) :=
  tr_loop (G := fun N' s w => s160_p3_den K N' s w) (F := s160_p4_F K) (sel := fun s => [s 5, s 12, s 75, s 76, s 77]) (s := s) (w := w) (p := s160_p4 K (s 5) (s 12) (s 75) (s 76) (s 77) w) (q := s160_p4_den K s w) (fun B s w h => s160_p3_ok K B s w @h) (by kernel_rfl) (by kernel_rfl) @h
def s160_p5 (K : Value → World → Prop) (t3 t5 : Value) (w : World) : Prop :=
  fd 3 t3 (fun t74 w =>
  ld1 t74 (fun t75 w =>
  lnS t75 (fun t76 w =>
  s160_p4 K t5 (.int .i64 0) t75 t76 (.int .i64 0) w) w) w) w
def s160_p5_den (K : Value → World → Prop) : (Nat → Value) → World → Prop := denL Tryz.prog [(cd (Tryz.f160.body.getD .skip) [1, 1, 1, 1, 0]), (cd (Tryz.f160.body.getD .skip) [1, 1, 1, 1, 1, 0, 0])] (s160_p4_den K) (fun i => (fun _ _ => False)) (s160_R K)
theorem s160_p5_ok (K : Value → World → Prop) (s : Nat → Value) (w : World) (h : s160_p5 K (s 3) (s 5) w) : Tr (s160_p5_den K s w) :=
  tr_simple (P := Tryz.prog) (codes := [(cd (Tryz.f160.body.getD .skip) [1, 1, 1, 1, 0]), (cd (Tryz.f160.body.getD .skip) [1, 1, 1, 1, 1, 0, 0])]) (N := (fun s w => s160_p4 K (s 5) (s 12) (s 75) (s 76) (s 77) w)) (N' := (s160_p4_den K)) (X := (fun i => (fun _ _ => False))) (X' := (fun i => (fun _ _ => False))) (R := s160_R K) (s := s) (w := w) (p := s160_p5 K (s 3) (s 5) w) (q := s160_p5_den K s w) (fun s w h => s160_p4_ok K s w @h) (fun i => tr_id) (by kernel_rfl) (by kernel_rfl) @h
def s160_p6 (K : Value → World → Prop) (B1 : List Value → World → Prop) (t2 t3 t5 t23 t24 t25 : Value) (w : World) : Prop :=
  boI .add t25 (.int .i64 1) (fun t73 w =>
  B1 [t2, t3, t5, t23, t24, t73] w) w
def s160_p6_den (K : Value → World → Prop) (M1 : (Nat → Value) → World → Prop) : (Nat → Value) → World → Prop := denL Tryz.prog [(cd (Tryz.f160.body.getD .skip) [1, 1, 1, 0, 1, 0, 0, 1, 1, 1])] M1 (fun i => (bif Nat.beq i 0 then (s160_p5_den K) else (fun _ _ => False))) (s160_R K)
theorem s160_p6_ok (K : Value → World → Prop) (B1 : List Value → World → Prop) (s : Nat → Value) (w : World) (h : s160_p6 K B1 (s 2) (s 3) (s 5) (s 23) (s 24) (s 25) w) : Tr (s160_p6_den K (fun s w => B1 [s 2, s 3, s 5, s 23, s 24, s 25] w) s w) :=
  tr_simple (P := Tryz.prog) (codes := [(cd (Tryz.f160.body.getD .skip) [1, 1, 1, 0, 1, 0, 0, 1, 1, 1])]) (N := (fun s w => B1 [s 2, s 3, s 5, s 23, s 24, s 25] w)) (N' := (fun s w => B1 [s 2, s 3, s 5, s 23, s 24, s 25] w)) (X := (fun i => (bif Nat.beq i 0 then (fun s w => s160_p5 K (s 3) (s 5) w) else (fun _ _ => False)))) (X' := (fun i => (bif Nat.beq i 0 then (s160_p5_den K) else (fun _ _ => False)))) (R := s160_R K) (s := s) (w := w) (p := s160_p6 K B1 (s 2) (s 3) (s 5) (s 23) (s 24) (s 25) w) (q := s160_p6_den K (fun s w => B1 [s 2, s 3, s 5, s 23, s 24, s 25] w) s w) tr_id (fun i => (tr_bif (fun s w h => s160_p5_ok K s w @h) tr_id)) (by kernel_rfl) (by kernel_rfl) @h
def s160_p7 (K : Value → World → Prop) (B1 : List Value → World → Prop) (t2 t3 t5 t7 t23 t24 t25 : Value) (w : World) : Prop :=
  lnS t7 (fun t71 w =>
  boI .add t5 t71 (fun t72 w =>
  s160_p6 K B1 t2 t3 t72 t23 t24 t25 w) w) w
def s160_p7_den (K : Value → World → Prop) (M1 : (Nat → Value) → World → Prop) : (Nat → Value) → World → Prop := denL Tryz.prog [(cd (Tryz.f160.body.getD .skip) [1, 1, 1, 0, 1, 0, 0, 1, 1, 0, 0, 1, 1, 1, 1])] (s160_p6_den K M1) (fun i => (bif Nat.beq i 1 then (s160_p6_den K M1) else (bif Nat.beq i 0 then (s160_p5_den K) else (fun _ _ => False)))) (s160_R K)
theorem s160_p7_ok (K : Value → World → Prop) (B1 : List Value → World → Prop) (s : Nat → Value) (w : World) (h : s160_p7 K B1 (s 2) (s 3) (s 5) (s 7) (s 23) (s 24) (s 25) w) : Tr (s160_p7_den K (fun s w => B1 [s 2, s 3, s 5, s 23, s 24, s 25] w) s w) :=
  tr_simple (P := Tryz.prog) (codes := [(cd (Tryz.f160.body.getD .skip) [1, 1, 1, 0, 1, 0, 0, 1, 1, 0, 0, 1, 1, 1, 1])]) (N := (fun s w => s160_p6 K B1 (s 2) (s 3) (s 5) (s 23) (s 24) (s 25) w)) (N' := (s160_p6_den K (fun s w => B1 [s 2, s 3, s 5, s 23, s 24, s 25] w))) (X := (fun i => (bif Nat.beq i 1 then (fun s w => s160_p6 K B1 (s 2) (s 3) (s 5) (s 23) (s 24) (s 25) w) else (bif Nat.beq i 0 then (fun s w => s160_p5 K (s 3) (s 5) w) else (fun _ _ => False))))) (X' := (fun i => (bif Nat.beq i 1 then (s160_p6_den K (fun s w => B1 [s 2, s 3, s 5, s 23, s 24, s 25] w)) else (bif Nat.beq i 0 then (s160_p5_den K) else (fun _ _ => False))))) (R := s160_R K) (s := s) (w := w) (p := s160_p7 K B1 (s 2) (s 3) (s 5) (s 7) (s 23) (s 24) (s 25) w) (q := s160_p7_den K (fun s w => B1 [s 2, s 3, s 5, s 23, s 24, s 25] w) s w) (fun s w h => s160_p6_ok K B1 s w @h) (fun i => (tr_bif (fun s w h => s160_p6_ok K B1 s w @h) (tr_bif (fun s w h => s160_p5_ok K s w @h) tr_id))) (by kernel_rfl) (by kernel_rfl) @h
def s160_p8 (K : Value → World → Prop) (B1 : List Value → World → Prop) (B2 : List Value → World → Prop) (t2 t3 t5 t6 t7 t8 t23 t24 t25 t35 t36 t37 : Value) (w : World) : Prop :=
  boI .lss t37 t36 (fun t38 w =>
  ifb t38
  (ixs 1 t35 t37 (fun t39 w =>
  ld1 t39 (fun t40 w =>
  boI .leq t40 t8 (fun t43 w =>
  gd t43 false (fun K w => K t40 w) (fun t45 w =>
  gd t43 false (fd 3 t3) (fun t46 w =>
  gd t43 false (ld1 t46) (fun t47 w =>
  gd t43 false (lnS t47) (fun t48 w =>
  gd t43 false (boI .gtr t45 t48) (fun t49 w =>
  pk t43 (.bool true) t49 (fun t50 w =>
  ifb t50
  (K (.bool false) w)
  (fd 3 t3 (fun t52 w =>
  ld1 t52 (fun t53 w =>
  boI .sub t40 (.int .i64 1) (fun t55 w =>
  ixs 7 t53 t55 (fun t56 w =>
  ldn 7 t56 (fun t57 w =>
  nw 85 #[(.int .i64 0), (.int .i64 0), (.int .i64 0), (.int .i64 0), (.int .i64 0), (.int .i64 0), (.slice none 0 0)] (fun t11 w =>
  stn 7 t11 t57 (fun w =>
  fd 1 t11 (fun t58 w =>
  ld1 t58 (fun t59 w =>
  boI .neq t59 (.int .i64 7) (fun t60 w =>
  gd t60 false (fd 4 t11) (fun t62 w =>
  gd t60 false (ld1 t62) (fun t63 w =>
  gd t60 false (fun K w => K t6 w) (fun t64 w =>
  gd t60 false (boI .add t64 (.int .i64 1)) (fun t65 w =>
  gd t60 false (boI .neq t63 t65) (fun t66 w =>
  pk t60 (.bool true) t66 (fun t67 w =>
  ifb t67
  (K (.bool false) w)
  (boI .add t37 (.int .i64 1) (fun t68 w =>
  B2 [t2, t3, t5, t6, t7, t40, t23, t24, t25, t35, t36, t68] w) w)) w) w) w) w) w) w) w) w) w) w) w) w) w) w) w) w)) w) w) w) w) w) w) w) w) w)
  (s160_p7 K B1 t2 t3 t5 t7 t23 t24 t25 w)) w
def s160_p8_den (K : Value → World → Prop) (M1 : (Nat → Value) → World → Prop) (M2 : (Nat → Value) → World → Prop) : (Nat → Value) → World → Prop := denL Tryz.prog [(cd (Tryz.f160.body.getD .skip) [1, 1, 1, 0, 1, 0, 0, 1, 1, 0, 0, 1, 1, 1, 0, 1, 0, 0, 0]), (cd (Tryz.f160.body.getD .skip) [1, 1, 1, 0, 1, 0, 0, 1, 1, 0, 0, 1, 1, 1, 0, 1, 0, 0, 1, 0]), (cd (Tryz.f160.body.getD .skip) [1, 1, 1, 0, 1, 0, 0, 1, 1, 0, 0, 1, 1, 1, 0, 1, 0, 0, 1, 1, 0]), (cd (Tryz.f160.body.getD .skip) [1, 1, 1, 0, 1, 0, 0, 1, 1, 0, 0, 1, 1, 1, 0, 1, 0, 0, 1, 1, 1])] M2 (fun i => (bif Nat.beq i 2 then (s160_p7_den K M1) else (bif Nat.beq i 1 then (s160_p6_den K M1) else (bif Nat.beq i 0 then (s160_p5_den K) else (fun _ _ => False))))) (s160_R K)
theorem s160_p8_ok (K : Value → World → Prop) (B1 : List Value → World → Prop) (B2 : List Value → World → Prop) (s : Nat → Value) (w : World) (h : s160_p8 K B1 B2 (s 2) (s 3) (s 5) (s 6) (s 7) (s 8) (s 23) (s 24) (s 25) (s 35) (s 36) (s 37) w) : Tr (s160_p8_den K (fun s w => B1 [s 2, s 3, s 5, s 23, s 24, s 25] w) (fun s w => B2 [s 2, s 3, s 5, s 6, s 7, s 8, s 23, s 24, s 25, s 35, s 36, s 37] w) s w) :=
  tr_simple (P := Tryz.prog) (codes := [(cd (Tryz.f160.body.getD .skip) [1, 1, 1, 0, 1, 0, 0, 1, 1, 0, 0, 1, 1, 1, 0, 1, 0, 0, 0]), (cd (Tryz.f160.body.getD .skip) [1, 1, 1, 0, 1, 0, 0, 1, 1, 0, 0, 1, 1, 1, 0, 1, 0, 0, 1, 0]), (cd (Tryz.f160.body.getD .skip) [1, 1, 1, 0, 1, 0, 0, 1, 1, 0, 0, 1, 1, 1, 0, 1, 0, 0, 1, 1, 0]), (cd (Tryz.f160.body.getD .skip) [1, 1, 1, 0, 1, 0, 0, 1, 1, 0, 0, 1, 1, 1, 0, 1, 0, 0, 1, 1, 1])]) (N := (fun s w => B2 [s 2, s 3, s 5, s 6, s 7, s 8, s 23, s 24, s 25, s 35, s 36, s 37] w)) (N' := (fun s w => B2 [s 2, s 3, s 5, s 6, s 7, s 8, s 23, s 24, s 25, s 35, s 36, s 37] w)) (X := (fun i => (bif Nat.beq i 2 then (fun s w => s160_p7 K B1 (s 2) (s 3) (s 5) (s 7) (s 23) (s 24) (s 25) w) else (bif Nat.beq i 1 then (fun s w => s160_p6 K B1 (s 2) (s 3) (s 5) (s 23) (s 24) (s 25) w) else (bif Nat.beq i 0 then (fun s w => s160_p5 K (s 3) (s 5) w) else (fun _ _ => False)))))) (X' := (fun i => (bif Nat.beq i 2 then (s160_p7_den K (fun s w => B1 [s 2, s 3, s 5, s 23, s 24, s 25] w)) else (bif Nat.beq i 1 then (s160_p6_den K (fun s w => B1 [s 2, s 3, s 5, s 23, s 24, s 25] w)) else (bif Nat.beq i 0 then (s160_p5_den K) else (fun _ _ => False)))))) (R := s160_R K) (s := s) (w := w) (p := s160_p8 K B1 B2 (s 2) (s 3) (s 5) (s 6) (s 7) (s 8) (s 23) (s 24) (s 25) (s 35) (s 36) (s 37) w) (q := s160_p8_den K (fun s w => B1 [s 2, s 3, s 5, s 23, s 24, s 25] w) (fun s w => B2 [s 2, s 3, s 5, s 6, s 7, s 8, s 23, s 24, s 25, s 35, s 36, s 37] w) s w) tr_id (fun i => (tr_bif (fun s w h => s160_p7_ok K B1 s w @h) (tr_bif (fun s w h => s160_p6_ok K B1 s w @h) (tr_bif (fun s w h => s160_p5_ok K s w @h) tr_id)))) (by kernel_rfl) (by kernel_rfl) @h
def s160_p9_F (K : Value → World → Prop) (B1 : List Value → World → Prop) (B2 : List Value → World → Prop) (l : List Value) (w : World) : Prop :=
  match l with
  | [t2, t3, t5, t6, t7, t8, t23, t24, t25, t35, t36, t37] => s160_p8 K B1 B2 t2 t3 t5 t6 t7 t8 t23 t24 t25 t35 t36 t37 w
  | _ => False
theorem s160_p9_Fe {K : Value → World → Prop} {B1 : List Value → World → Prop} {B2 : List Value → World → Prop} {t2 t3 t5 t6 t7 t8 t23 t24 t25 t35 t36 t37 : Value} {w : World} : s160_p9_F K B1 B2 [t2, t3, t5, t6, t7, t8, t23, t24, t25, t35, t36, t37] w = s160_p8 K B1 B2 t2 t3 t5 t6 t7 t8 t23 t24 t25 t35 t36 t37 w := by kernel_rfl
def s160_p9 (K : Value → World → Prop) (B1 : List Value → World → Prop) (t2 t3 t5 t6 t7 t8 t23 t24 t25 t35 t36 t37 : Value) (w : World) : Prop :=
  LoopL (s160_p9_F K B1) [t2, t3, t5, t6, t7, t8, t23, t24, t25, t35, t36, t37] w
def s160_p9_den (K : Value → World → Prop) (M1 : (Nat → Value) → World → Prop) : (Nat → Value) → World → Prop := fun s w => LoopP (fun M2 s w => s160_p8_den K M1 M2 s w) s w
theorem s160_p9_ok (K : Value → World → Prop) (B1 : List Value → World → Prop) (s : Nat → Value) (w : World) (h : s160_p9 K B1 (s 2) (s 3) (s 5) (s 6) (s 7) (s 8) (s 23) (s 24) (s 25) (s 35) (s 36) (s 37) w) : Tr (s160_p9_den K (fun s w => B1 [s 2, s 3, s 5, s 23, s 24, s 25] w) s w) :=
  tr_loop (G := fun N' s w => s160_p8_den K (fun s w => B1 [s 2, s 3, s 5, s 23, s 24, s 25] w) N' s w) (F := s160_p9_F K B1) (sel := fun s => [s 2, s 3, s 5, s 6, s 7, s 8, s 23, s 24, s 25, s 35, s 36, s 37]) (s := s) (w := w) (p := s160_p9 K B1 (s 2) (s 3) (s 5) (s 6) (s 7) (s 8) (s 23) (s 24) (s 25) (s 35) (s 36) (s 37) w) (q := s160_p9_den K (fun s w => B1 [s 2, s 3, s 5, s 23, s 24, s 25] w) s w) (fun B s w h => s160_p8_ok K B1 B s w @h) (by kernel_rfl) (by kernel_rfl) @h
def s160_p10 (K : Value → World → Prop) (B1 : List Value → World → Prop) (t2 t3 t5 t23 t24 t25 : Value) (w : World) : Prop :=
  ixs 1 t23 t25 (fun t28 w =>
  ld1 t28 (fun t29 w =>
  lnS t29 (fun t31 w =>
  fd 11 t2 (fun t32 w =>
  ld1 t32 (fun t33 w =>
  boI .gtr t31 t33 (fun t34 w =>
  ifb t34
  (K (.bool false) w)
  (lnS t29 (fun t36 w =>
  s160_p9 K B1 t2 t3 t5 t25 t29 (.int .i64 0) t23 t24 t25 t29 t36 (.int .i64 0) w) w)) w) w) w) w) w) w
def s160_p10_den (K : Value → World → Prop) (M1 : (Nat → Value) → World → Prop) : (Nat → Value) → World → Prop := denL Tryz.prog [(cd (Tryz.f160.body.getD .skip) [1, 1, 1, 0, 1, 0, 0, 1, 1, 0, 0, 0]), (cd (Tryz.f160.body.getD .skip) [1, 1, 1, 0, 1, 0, 0, 1, 1, 0, 0, 1, 0, 0]), (cd (Tryz.f160.body.getD .skip) [1, 1, 1, 0, 1, 0, 0, 1, 1, 0, 0, 1, 0, 1]), (cd (Tryz.f160.body.getD .skip) [1, 1, 1, 0, 1, 0, 0, 1, 1, 0, 0, 1, 1, 0]), (cd (Tryz.f160.body.getD .skip) [1, 1, 1, 0, 1, 0, 0, 1, 1, 0, 0, 1, 1, 1, 0, 0])] (s160_p9_den K M1) (fun i => (bif Nat.beq i 1 then (s160_p6_den K M1) else (bif Nat.beq i 0 then (s160_p5_den K) else (fun _ _ => False)))) (s160_R K)
theorem s160_p10_ok (K : Value → World → Prop) (B1 : List Value → World → Prop) (s : Nat → Value) (w : World) (h : s160_p10 K B1 (s 2) (s 3) (s 5) (s 23) (s 24) (s 25) w) : Tr (s160_p10_den K (fun s w => B1 [s 2, s 3, s 5, s 23, s 24, s 25] w) s w) :=
  tr_simple (P := Tryz.prog) (codes := [(cd (Tryz.f160.body.getD .skip) [1, 1, 1, 0, 1, 0, 0, 1, 1, 0, 0, 0]), (cd (Tryz.f160.body.getD .skip) [1, 1, 1, 0, 1, 0, 0, 1, 1, 0, 0, 1, 0, 0]), (cd (Tryz.f160.body.getD .skip) [1, 1, 1, 0, 1, 0, 0, 1, 1, 0, 0, 1, 0, 1]), (cd (Tryz.f160.body.getD .skip) [1, 1, 1, 0, 1, 0, 0, 1, 1, 0, 0, 1, 1, 0]), (cd (Tryz.f160.body.getD .skip) [1, 1, 1, 0, 1, 0, 0, 1, 1, 0, 0, 1, 1, 1, 0, 0])]) (N := (fun s w => s160_p9 K B1 (s 2) (s 3) (s 5) (s 6) (s 7) (s 8) (s 23) (s 24) (s 25) (s 35) (s 36) (s 37) w)) (N' := (s160_p9_den K (fun s w => B1 [s 2, s 3, s 5, s 23, s 24, s 25] w))) (X := (fun i => (bif Nat.beq i 1 then (fun s w => s160_p6 K B1 (s 2) (s 3) (s 5) (s 23) (s 24) (s 25) w) else (bif Nat.beq i 0 then (fun s w => s160_p5 K (s 3) (s 5) w) else (fun _ _ => False))))) (X' := (fun i => (bif Nat.beq i 1 then (s160_p6_den K (fun s w => B1 [s 2, s 3, s 5, s 23, s 24, s 25] w)) else (bif Nat.beq i 0 then (s160_p5_den K) else (fun _ _ => False))))) (R := s160_R K) (s := s) (w := w) (p := s160_p10 K B1 (s 2) (s 3) (s 5) (s 23) (s 24) (s 25) w) (q := s160_p10_den K (fun s w => B1 [s 2, s 3, s 5, s 23, s 24, s 25] w) s w) (fun s w h => s160_p9_ok K B1 s w @h) (fun i => (tr_bif (fun s w h => s160_p6_ok K B1 s w @h) (tr_bif (fun s w h => s160_p5_ok K s w @h) tr_id))) (by kernel_rfl) (by kernel_rfl) @h
def s160_p11 (K : Value → World → Prop) (B1 : List Value → World → Prop) (t2 t3 t5 t23 t24 t25 : Value) (w : World) : Prop :=
  boI .lss t25 t24 (fun t26 w =>
  ifb t26
  (s160_p10 K B1 t2 t3 t5 t23 t24 t25 w)
  (s160_p5 K t3 t5 w)) w
def s160_p11_den (K : Value → World → Prop) (M1 : (Nat → Value) → World → Prop) : (Nat → Value) → World → Prop := denL Tryz.prog [(cd (Tryz.f160.body.getD .skip) [1, 1, 1, 0, 1, 0, 0, 0]), (cd (Tryz.f160.body.getD .skip) [1, 1, 1, 0, 1, 0, 0, 1, 0])] (s160_p10_den K M1) (fun i => (bif Nat.beq i 0 then (s160_p5_den K) else (fun _ _ => False))) (s160_R K)
theorem s160_p11_ok (K : Value → World → Prop) (B1 : List Value → World → Prop) (s : Nat → Value) (w : World) (h : s160_p11 K B1 (s 2) (s 3) (s 5) (s 23) (s 24) (s 25) w) : Tr (s160_p11_den K (fun s w => B1 [s 2, s 3, s 5, s 23, s 24, s 25] w) s w) :=
  tr_simple (P := Tryz.prog) (codes := [(cd (Tryz.f160.body.getD .skip) [1, 1, 1, 0, 1, 0, 0, 0]), (cd (Tryz.f160.body.getD .skip) [1, 1, 1, 0, 1, 0, 0, 1, 0])]) (N := (fun s w => s160_p10 K B1 (s 2) (s 3) (s 5) (s 23) (s 24) (s 25) w)) (N' := (s160_p10_den K (fun s w => B1 [s 2, s 3, s 5, s 23, s 24, s 25] w))) (X := (fun i => (bif Nat.beq i 0 then (fun s w => s160_p5 K (s 3) (s 5) w) else (fun _ _ => False)))) (X' := (fun i => (bif Nat.beq i 0 then (s160_p5_den K) else (fun _ _ => False)))) (R := s160_R K) (s := s) (w := w) (p := s160_p11 K B1 (s 2) (s 3) (s 5) (s 23) (s 24) (s 25) w) (q := s160_p11_den K (fun s w => B1 [s 2, s 3, s 5, s 23, s 24, s 25] w) s w) (fun s w h => s160_p10_ok K B1 s w @h) (fun i => (tr_bif (fun s w h => s160_p5_ok K s w @h) tr_id)) (by kernel_rfl) (by kernel_rfl) @h
def s160_p12_F (K : Value → World → Prop) (B1 : List Value → World → Prop) (l : List Value) (w : World) : Prop :=
  match l with
  | [t2, t3, t5, t23, t24, t25] => s160_p11 K B1 t2 t3 t5 t23 t24 t25 w
  | _ => False
theorem s160_p12_Fe {K : Value → World → Prop} {B1 : List Value → World → Prop} {t2 t3 t5 t23 t24 t25 : Value} {w : World} : s160_p12_F K B1 [t2, t3, t5, t23, t24, t25] w = s160_p11 K B1 t2 t3 t5 t23 t24 t25 w := by kernel_rfl
def s160_p12 (K : Value → World → Prop) (t2 t3 t5 t23 t24 t25 : Value) (w : World) : Prop :=
  LoopL (s160_p12_F K) [t2, t3, t5, t23, t24, t25] w
def s160_p12_den (K : Value → World → Prop) : (Nat → Value) → World → Prop := fun s w => LoopP (fun M1 s w => s160_p11_den K M1 s w) s w
theorem s160_p12_ok (K : Value → World → Prop) (s : Nat → Value) (w : World) (h : s160_p12 K (s 2) (s 3) (s 5) (s 23) (s 24) (s 25) w) : Tr (s160_p12_den K s w) :=
  tr_loop (G := fun N' s w => s160_p11_den K N' s w) (F := s160_p12_F K) (sel := fun s => [s 2, s 3, s 5, s 23, s 24, s 25]) (s := s) (w := w) (p := s160_p12 K (s 2) (s 3) (s 5) (s 23) (s 24) (s 25) w) (q := s160_p12_den K s w) (fun B s w h => s160_p11_ok K B s w @h) (by kernel_rfl) (by kernel_rfl) @h
def s160_p13 (K : Value → World → Prop) (t0 t1 : Value) (w : World) : Prop :=
  nw 34 (t0).cells (fun t2 w =>
  nw 152 (t1).cells (fun t3 w =>
  fd 4 t3 (fun t15 w =>
  ld1 t15 (fun t16 w =>
  lnS t16 (fun t17 w =>
  fd 0 t2 (fun t18 w =>
  ld1 t18 (fun t19 w =>
  lnS t19 (fun t20 w =>
  boI .neq t17 t20 (fun t21 w =>
  ifb t21
  (K (.bool false) w)
  (fd 4 t3 (fun t22 w =>
  ld1 t22 (fun t23 w =>
  lnS t23 (fun t24 w =>
  s160_p12 K t2 t3 (.int .i64 0) t23 t24 (.int .i64 0) w) w) w) w)) w) w) w) w) w) w) w) w) w
def s160_p13_den (K : Value → World → Prop) : (Nat → Value) → World → Prop := denL Tryz.prog [(cd (Tryz.f160.body.getD .skip) [0]), (cd (Tryz.f160.body.getD .skip) [1, 0, 0]), (cd (Tryz.f160.body.getD .skip) [1, 0, 1]), (cd (Tryz.f160.body.getD .skip) [1, 1, 0]), (cd (Tryz.f160.body.getD .skip) [1, 1, 1, 0, 0])] (s160_p12_den K) (fun i => (fun _ _ => False)) (s160_R K)
theorem s160_p13_ok (K : Value → World → Prop) (s : Nat → Value) (w : World) (h : s160_p13 K (s 0) (s 1) w) : Tr (s160_p13_den K s w) :=
  tr_simple (P := Tryz.prog) (codes := [(cd (Tryz.f160.body.getD .skip) [0]), (cd (Tryz.f160.body.getD .skip) [1, 0, 0]), (cd (Tryz.f160.body.getD .skip) [1, 0, 1]), (cd (Tryz.f160.body.getD .skip) [1, 1, 0]), (cd (Tryz.f160.body.getD .skip) [1, 1, 1, 0, 0])]) (N := (fun s w => s160_p12 K (s 2) (s 3) (s 5) (s 23) (s 24) (s 25) w)) (N' := (s160_p12_den K)) (X := (fun i => (fun _ _ => False))) (X' := (fun i => (fun _ _ => False))) (R := s160_R K) (s := s) (w := w) (p := s160_p13 K (s 0) (s 1) w) (q := s160_p13_den K s w) (fun s w h => s160_p12_ok K s w @h) (fun i => tr_id) (by kernel_rfl) (by kernel_rfl) @h
/-- the call, from the text -/
theorem c160 (t0 t1 : Value) {K : Value → World → Prop} {w : World} (h : s160_p13 K t0 t1 w) : cl Tryz.prog 160 #[t0, t1] K w :=
  calls_of_tr (c := (Tryz.f160.body.getD .skip)) (fn := Tryz.f160) (q := s160_p13_den K (st0 #[t0, t1]) w) Tryz.func160 (by kernel_rfl) (by kernel_rfl) (Nat.le_of_ble_eq_true (by kernel_rfl)) (by kernel_rfl) (by kernel_rfl) (s160_p13_ok K (st0 #[t0, t1]) w @h)

/-! ### function 161 : e2e.engine.checkLoad -/
def s161_R (K : Value → World → Prop) (s : Nat → Value) (w : World) : Prop := retv Tryz.prog s Tryz.f161.results.toList (fun vs => K (pack vs) w) w
def s161_p1 (K : Value → World → Prop) (w : World) : Prop :=
  K (.bool true) w
def s161_p1_den (K : Value → World → Prop) : (Nat → Value) → World → Prop := denL Tryz.prog [(cd (Tryz.f161.body.getD .skip) [1, 1, 1, 0]), (cd (Tryz.f161.body.getD .skip) [1, 1, 1, 1])] (fun _ _ => False) (fun i => (fun _ _ => False)) (s161_R K)
theorem s161_p1_ok (K : Value → World → Prop) (s : Nat → Value) (w : World) (h : s161_p1 K w) : Tr (s161_p1_den K s w) :=
  tr_simple (P := Tryz.prog) (codes := [(cd (Tryz.f161.body.getD .skip) [1, 1, 1, 0]), (cd (Tryz.f161.body.getD .skip) [1, 1, 1, 1])]) (N := (fun _ _ => False)) (N' := (fun _ _ => False)) (X := (fun i => (fun _ _ => False))) (X' := (fun i => (fun _ _ => False))) (R := s161_R K) (s := s) (w := w) (p := s161_p1 K w) (q := s161_p1_den K s w) tr_id (fun i => tr_id) (by kernel_rfl) (by kernel_rfl) @h
def s161_p2 (K : Value → World → Prop) (B1 : List Value → World → Prop) (t2 t5 t16 t17 t18 : Value) (w : World) : Prop :=
  boI .add t18 (.int .i64 1) (fun t105 w =>
  B1 [t2, t5, t16, t17, t105] w) w
def s161_p2_den (K : Value → World → Prop) (M1 : (Nat → Value) → World → Prop) : (Nat → Value) → World → Prop := denL Tryz.prog [(cd (Tryz.f161.body.getD .skip) [1, 1, 0, 1, 0, 0, 1, 1, 1])] M1 (fun i => (bif Nat.beq i 0 then (s161_p1_den K) else (fun _ _ => False))) (s161_R K)
theorem s161_p2_ok (K : Value → World → Prop) (B1 : List Value → World → Prop) (s : Nat → Value) (w : World) (h : s161_p2 K B1 (s 2) (s 5) (s 16) (s 17) (s 18) w) : Tr (s161_p2_den K (fun s w => B1 [s 2, s 5, s 16, s 17, s 18] w) s w) :=
  tr_simple (P := Tryz.prog) (codes := [(cd (Tryz.f161.body.getD .skip) [1, 1, 0, 1, 0, 0, 1, 1, 1])]) (N := (fun s w => B1 [s 2, s 5, s 16, s 17, s 18] w)) (N' := (fun s w => B1 [s 2, s 5, s 16, s 17, s 18] w)) (X := (fun i => (bif Nat.beq i 0 then (fun s w => s161_p1 K w) else (fun _ _ => False)))) (X' := (fun i => (bif Nat.beq i 0 then (s161_p1_den K) else (fun _ _ => False)))) (R := s161_R K) (s := s) (w := w) (p := s161_p2 K B1 (s 2) (s 5) (s 16) (s 17) (s 18) w) (q := s161_p2_den K (fun s w => B1 [s 2, s 5, s 16, s 17, s 18] w) s w) tr_id (fun i => (tr_bif (fun s w h => s161_p1_ok K s w @h) tr_id)) (by kernel_rfl) (by kernel_rfl) @h
def s161_p3 (K : Value → World → Prop) (B1 : List Value → World → Prop) (B2 : List Value → World → Prop) (t2 t5 t7 t16 t17 t18 t27 t28 t29 : Value) (w : World) : Prop :=
  boI .add t29 (.int .i64 1) (fun t104 w =>
  B2 [t2, t5, t7, t16, t17, t18, t27, t28, t104] w) w
def s161_p3_den (K : Value → World → Prop) (M1 : (Nat → Value) → World → Prop) (M2 : (Nat → Value) → World → Prop) : (Nat → Value) → World → Prop := denL Tryz.prog [(cd (Tryz.f161.body.getD .skip) [1, 1, 0, 1, 0, 0, 1, 1, 0, 0, 1, 1, 1, 0, 0, 1, 1, 1])] M2 (fun i => (bif Nat.beq i 2 then (s161_p2_den K M1) else (bif Nat.beq i 1 then (s161_p2_den K M1) else (bif Nat.beq i 0 then (s161_p1_den K) else (fun _ _ => False))))) (s161_R K)
theorem s161_p3_ok (K : Value → World → Prop) (B1 : List Value → World → Prop) (B2 : List Value → World → Prop) (s : Nat → Value) (w : World) (h : s161_p3 K B1 B2 (s 2) (s 5) (s 7) (s 16) (s 17) (s 18) (s 27) (s 28) (s 29) w) : Tr (s161_p3_den K (fun s w => B1 [s 2, s 5, s 16, s 17, s 18] w) (fun s w => B2 [s 2, s 5, s 7, s 16, s 17, s 18, s 27, s 28, s 29] w) s w) :=
  tr_simple (P := Tryz.prog) (codes := [(cd (Tryz.f161.body.getD .skip) [1, 1, 0, 1, 0, 0, 1, 1, 0, 0, 1, 1, 1, 0, 0, 1, 1, 1])]) (N := (fun s w => B2 [s 2, s 5, s 7, s 16, s 17, s 18, s 27, s 28, s 29] w)) (N' := (fun s w => B2 [s 2, s 5, s 7, s 16, s 17, s 18, s 27, s 28, s 29] w)) (X := (fun i => (bif Nat.beq i 2 then (fun s w => s161_p2 K B1 (s 2) (s 5) (s 16) (s 17) (s 18) w) else (bif Nat.beq i 1 then (fun s w => s161_p2 K B1 (s 2) (s 5) (s 16) (s 17) (s 18) w) else (bif Nat.beq i 0 then (fun s w => s161_p1 K w) else (fun _ _ => False)))))) (X' := (fun i => (bif Nat.beq i 2 then (s161_p2_den K (fun s w => B1 [s 2, s 5, s 16, s 17, s 18] w)) else (bif Nat.beq i 1 then (s161_p2_den K (fun s w => B1 [s 2, s 5, s 16, s 17, s 18] w)) else (bif Nat.beq i 0 then (s161_p1_den K) else (fun _ _ => False)))))) (R := s161_R K) (s := s) (w := w) (p := s161_p3 K B1 B2 (s 2) (s 5) (s 7) (s 16) (s 17) (s 18) (s 27) (s 28) (s 29) w) (q := s161_p3_den K (fun s w => B1 [s 2, s 5, s 16, s 17, s 18] w) (fun s w => B2 [s 2, s 5, s 7, s 16, s 17, s 18, s 27, s 28, s 29] w) s w) tr_id (fun i => (tr_bif (fun s w h => s161_p2_ok K B1 s w @h) (tr_bif (fun s w h => s161_p2_ok K B1 s w @h) (tr_bif (fun s w h => s161_p1_ok K s w @h) tr_id)))) (by kernel_rfl) (by kernel_rfl) @h
def s161_p4 (K : Value → World → Prop) (B1 : List Value → World → Prop) (B2 : List Value → World → Prop) (t2 t5 t7 t16 t17 t18 t27 t28 t29 t103 : Value) (w : World) : Prop :=
  ifb t103
  (K (.bool false) w)
  (s161_p3 K B1 B2 t2 t5 t7 t16 t17 t18 t27 t28 t29 w)
def s161_p4_den (K : Value → World → Prop) (M1 : (Nat → Value) → World → Prop) (M2 : (Nat → Value) → World → Prop) : (Nat → Value) → World → Prop := denL Tryz.prog [(cd (Tryz.f161.body.getD .skip) [1, 1, 0, 1, 0, 0, 1, 1, 0, 0, 1, 1, 1, 0, 0, 1, 1, 0, 0, 1, 1, 1, 1, 1, 0, 1, 1])] (s161_p3_den K M1 M2) (fun i => (bif Nat.beq i 3 then (s161_p3_den K M1 M2) else (bif Nat.beq i 2 then (s161_p2_den K M1) else (bif Nat.beq i 1 then (s161_p2_den K M1) else (bif Nat.beq i 0 then (s161_p1_den K) else (fun _ _ => False)))))) (s161_R K)
theorem s161_p4_ok (K : Value → World → Prop) (B1 : List Value → World → Prop) (B2 : List Value → World → Prop) (s : Nat → Value) (w : World) (h : s161_p4 K B1 B2 (s 2) (s 5) (s 7) (s 16) (s 17) (s 18) (s 27) (s 28) (s 29) (s 103) w) : Tr (s161_p4_den K (fun s w => B1 [s 2, s 5, s 16, s 17, s 18] w) (fun s w => B2 [s 2, s 5, s 7, s 16, s 17, s 18, s 27, s 28, s 29] w) s w) :=
  tr_simple (P := Tryz.prog) (codes := [(cd (Tryz.f161.body.getD .skip) [1, 1, 0, 1, 0, 0, 1, 1, 0, 0, 1, 1, 1, 0, 0, 1, 1, 0, 0, 1, 1, 1, 1, 1, 0, 1, 1])]) (N := (fun s w => s161_p3 K B1 B2 (s 2) (s 5) (s 7) (s 16) (s 17) (s 18) (s 27) (s 28) (s 29) w)) (N' := (s161_p3_den K (fun s w => B1 [s 2, s 5, s 16, s 17, s 18] w) (fun s w => B2 [s 2, s 5, s 7, s 16, s 17, s 18, s 27, s 28, s 29] w))) (X := (fun i => (bif Nat.beq i 3 then (fun s w => s161_p3 K B1 B2 (s 2) (s 5) (s 7) (s 16) (s 17) (s 18) (s 27) (s 28) (s 29) w) else (bif Nat.beq i 2 then (fun s w => s161_p2 K B1 (s 2) (s 5) (s 16) (s 17) (s 18) w) else (bif Nat.beq i 1 then (fun s w => s161_p2 K B1 (s 2) (s 5) (s 16) (s 17) (s 18) w) else (bif Nat.beq i 0 then (fun s w => s161_p1 K w) else (fun _ _ => False))))))) (X' := (fun i => (bif Nat.beq i 3 then (s161_p3_den K (fun s w => B1 [s 2, s 5, s 16, s 17, s 18] w) (fun s w => B2 [s 2, s 5, s 7, s 16, s 17, s 18, s 27, s 28, s 29] w)) else (bif Nat.beq i 2 then (s161_p2_den K (fun s w => B1 [s 2, s 5, s 16, s 17, s 18] w)) else (bif Nat.beq i 1 then (s161_p2_den K (fun s w => B1 [s 2, s 5, s 16, s 17, s 18] w)) else (bif Nat.beq i 0 then (s161_p1_den K) else (fun _ _ => False))))))) (R := s161_R K) (s := s) (w := w) (p := s161_p4 K B1 B2 (s 2) (s 5) (s 7) (s 16) (s 17) (s 18) (s 27) (s 28) (s 29) (s 103) w) (q := s161_p4_den K (fun s w => B1 [s 2, s 5, s 16, s 17, s 18] w) (fun s w => B2 [s 2, s 5, s 7, s 16, s 17, s 18, s 27, s 28, s 29] w) s w) (fun s w h => s161_p3_ok K B1 B2 s w @h) (fun i => (tr_bif (fun s w h => s161_p3_ok K B1 B2 s w @h) (tr_bif (fun s w h => s161_p2_ok K B1 s w @h) (tr_bif (fun s w h => s161_p2_ok K B1 s w @h) (tr_bif (fun s w h => s161_p1_ok K s w @h) tr_id))))) (by kernel_rfl) (by kernel_rfl) @h
def s161_p5_d (K : Value → World → Prop) (B1 : List Value → World → Prop) (B2 : List Value → World → Prop) (t2 t5 t7 t9 t10 t12 t16 t17 t18 t27 t28 t29 : Value) (w0 w : World) : Prop :=
  fd 1 t12 (fun t85 _ =>
  ld1 t85 (fun t86 _ =>
  fd 1 t9 (fun t87 _ =>
  ld1 t87 (fun t88 _ =>
  fd 1 t10 (fun t89 _ =>
  ld1 t89 (fun t90 _ =>
  boI .add t88 t90 (fun t91 _ =>
  fd 1 t2 (fun t92 _ =>
  ld1 t92 (fun t93 _ =>
  fd 0 t9 (fun t94 _ =>
  ld1 t94 (fun t95 _ =>
  ixs 1 t93 t95 (fun t96 _ =>
  ld1 t96 (fun t97 _ =>
  fd 0 t12 (fun t98 _ =>
  ld1 t98 (fun t99 _ =>
  ixs 1 t97 t99 (fun t100 _ =>
  ld1 t100 (fun t101 _ =>
  boI .add t91 t101 (fun t102 _ =>
  boI .lss t86 t102 (fun t103 _ =>
  s161_p4 K B1 B2 t2 t5 t7 t16 t17 t18 t27 t28 t29 t103 w) w0) w0) w0) w0) w0) w0) w0) w0) w0) w0) w0) w0) w0) w0) w0) w0) w0) w0) w0
def s161_p5 (K : Value → World → Prop) (B1 : List Value → World → Prop) (B2 : List Value → World → Prop) (t2 t5 t7 t9 t10 t12 t16 t17 t18 t27 t28 t29 : Value) (w : World) : Prop := s161_p5_d K B1 B2 t2 t5 t7 t9 t10 t12 t16 t17 t18 t27 t28 t29 (drw w) (drw w)
def s161_p5_den (K : Value → World → Prop) (M1 : (Nat → Value) → World → Prop) (M2 : (Nat → Value) → World → Prop) : (Nat → Value) → World → Prop := denL Tryz.prog [(cd (Tryz.f161.body.getD .skip) [1, 1, 0, 1, 0, 0, 1, 1, 0, 0, 1, 1, 1, 0, 0, 1, 1, 0, 0, 1, 1, 1, 1, 1, 0, 1, 0])] (s161_p4_den K M1 M2) (fun i => (bif Nat.beq i 3 then (s161_p3_den K M1 M2) else (bif Nat.beq i 2 then (s161_p2_den K M1) else (bif Nat.beq i 1 then (s161_p2_den K M1) else (bif Nat.beq i 0 then (s161_p1_den K) else (fun _ _ => False)))))) (s161_R K)
theorem s161_p5_ok (K : Value → World → Prop) (B1 : List Value → World → Prop) (B2 : List Value → World → Prop) (s : Nat → Value) (w : World) (h : s161_p5 K B1 B2 (s 2) (s 5) (s 7) (s 9) (s 10) (s 12) (s 16) (s 17) (s 18) (s 27) (s 28) (s 29) w) : Tr (s161_p5_den K (fun s w => B1 [s 2, s 5, s 16, s 17, s 18] w) (fun s w => B2 [s 2, s 5, s 7, s 16, s 17, s 18, s 27, s 28, s 29] w) s w) :=
  tr_draw (P := Tryz.prog) (ops := (ro (cd (Tryz.f161.body.getD .skip) [1, 1, 0, 1, 0, 0, 1, 1, 0, 0, 1, 1, 1, 0, 0, 1, 1, 0, 0, 1, 1, 1, 1, 1, 0, 1, 0]))) (ms := [0, 1, 0, 4, 0, 16, 60, 0, 128, 0, 512, 1920, 3968, 0, 8192, 32640, 65408, 131068, 262143]) (cs := [0, 1, 2, 3, 4, 5, 6, 7, 8, 9, 10, 11, 12, 13, 14, 15, 16, 17, 18]) (N := (fun s w => s161_p4 K B1 B2 (s 2) (s 5) (s 7) (s 16) (s 17) (s 18) (s 27) (s 28) (s 29) (s 103) w)) (N' := (s161_p4_den K (fun s w => B1 [s 2, s 5, s 16, s 17, s 18] w) (fun s w => B2 [s 2, s 5, s 7, s 16, s 17, s 18, s 27, s 28, s 29] w))) (s := s) (w := w) (p := s161_p5 K B1 B2 (s 2) (s 5) (s 7) (s 9) (s 10) (s 12) (s 16) (s 17) (s 18) (s 27) (s 28) (s 29) w) (q := s161_p5_den K (fun s w => B1 [s 2, s 5, s 16, s 17, s 18] w) (fun s w => B2 [s 2, s 5, s 7, s 16, s 17, s 18, s 27, s 28, s 29] w) s w) (by kernel_rfl) (by kernel_rfl) (fun s w h => s161_p4_ok K B1 B2 s w @h) (by kernel_rfl) (by kernel_rfl) @h
def s161_p6 (K : Value → World → Prop) (B1 : List Value → World → Prop) (B2 : List Value → World → Prop) (t2 t5 t7 t8 t9 t10 t16 t17 t18 t27 t28 t29 : Value) (w : World) : Prop :=
  fd 6 t7 (fun t79 w =>
  ld1 t79 (fun t80 w =>
  boI .add t8 (.int .i64 1) (fun t82 w =>
  ixs 2 t80 t82 (fun t83 w =>
  ldn 2 t83 (fun t84 w =>
  nw 88 #[(.int .i64 0), (.int .i64 0)] (fun t12 w =>
  stn 2 t12 t84 (fun w =>
  s161_p5 K B1 B2 t2 t5 t7 t9 t10 t12 t16 t17 t18 t27 t28 t29 w) w) w) w) w) w) w) w
def s161_p6_den (K : Value → World → Prop) (M1 : (Nat → Value) → World → Prop) (M2 : (Nat → Value) → World → Prop) : (Nat → Value) → World → Prop := denL Tryz.prog [(cd (Tryz.f161.body.getD .skip) [1, 1, 0, 1, 0, 0, 1, 1, 0, 0, 1, 1, 1, 0, 0, 1, 1, 0, 0, 1, 1, 1, 1, 1, 0, 0])] (s161_p5_den K M1 M2) (fun i => (bif Nat.beq i 3 then (s161_p3_den K M1 M2) else (bif Nat.beq i 2 then (s161_p2_den K M1) else (bif Nat.beq i 1 then (s161_p2_den K M1) else (bif Nat.beq i 0 then (s161_p1_den K) else (fun _ _ => False)))))) (s161_R K)
theorem s161_p6_ok (K : Value → World → Prop) (B1 : List Value → World → Prop) (B2 : List Value → World → Prop) (s : Nat → Value) (w : World) (h : s161_p6 K B1 B2 (s 2) (s 5) (s 7) (s 8) (s 9) (s 10) (s 16) (s 17) (s 18) (s 27) (s 28) (s 29) w) : Tr (s161_p6_den K (fun s w => B1 [s 2, s 5, s 16, s 17, s 18] w) (fun s w => B2 [s 2, s 5, s 7, s 16, s 17, s 18, s 27, s 28, s 29] w) s w) :=
  tr_simple (P := Tryz.prog) (codes := [(cd (Tryz.f161.body.getD .skip) [1, 1, 0, 1, 0, 0, 1, 1, 0, 0, 1, 1, 1, 0, 0, 1, 1, 0, 0, 1, 1, 1, 1, 1, 0, 0])]) (N := (fun s w => s161_p5 K B1 B2 (s 2) (s 5) (s 7) (s 9) (s 10) (s 12) (s 16) (s 17) (s 18) (s 27) (s 28) (s 29) w)) (N' := (s161_p5_den K (fun s w => B1 [s 2, s 5, s 16, s 17, s 18] w) (fun s w => B2 [s 2, s 5, s 7, s 16, s 17, s 18, s 27, s 28, s 29] w))) (X := (fun i => (bif Nat.beq i 3 then (fun s w => s161_p3 K B1 B2 (s 2) (s 5) (s 7) (s 16) (s 17) (s 18) (s 27) (s 28) (s 29) w) else (bif Nat.beq i 2 then (fun s w => s161_p2 K B1 (s 2) (s 5) (s 16) (s 17) (s 18) w) else (bif Nat.beq i 1 then (fun s w => s161_p2 K B1 (s 2) (s 5) (s 16) (s 17) (s 18) w) else (bif Nat.beq i 0 then (fun s w => s161_p1 K w) else (fun _ _ => False))))))) (X' := (fun i => (bif Nat.beq i 3 then (s161_p3_den K (fun s w => B1 [s 2, s 5, s 16, s 17, s 18] w) (fun s w => B2 [s 2, s 5, s 7, s 16, s 17, s 18, s 27, s 28, s 29] w)) else (bif Nat.beq i 2 then (s161_p2_den K (fun s w => B1 [s 2, s 5, s 16, s 17, s 18] w)) else (bif Nat.beq i 1 then (s161_p2_den K (fun s w => B1 [s 2, s 5, s 16, s 17, s 18] w)) else (bif Nat.beq i 0 then (s161_p1_den K) else (fun _ _ => False))))))) (R := s161_R K) (s := s) (w := w) (p := s161_p6 K B1 B2 (s 2) (s 5) (s 7) (s 8) (s 9) (s 10) (s 16) (s 17) (s 18) (s 27) (s 28) (s 29) w) (q := s161_p6_den K (fun s w => B1 [s 2, s 5, s 16, s 17, s 18] w) (fun s w => B2 [s 2, s 5, s 7, s 16, s 17, s 18, s 27, s 28, s 29] w) s w) (fun s w h => s161_p5_ok K B1 B2 s w @h) (fun i => (tr_bif (fun s w h => s161_p3_ok K B1 B2 s w @h) (tr_bif (fun s w h => s161_p2_ok K B1 s w @h) (tr_bif (fun s w h => s161_p2_ok K B1 s w @h) (tr_bif (fun s w h => s161_p1_ok K s w @h) tr_id))))) (by kernel_rfl) (by kernel_rfl) @h
def s161_p7 (K : Value → World → Prop) (B1 : List Value → World → Prop) (B2 : List Value → World → Prop) (t2 t5 t7 t8 t9 t10 t16 t17 t18 t27 t28 t29 t78 : Value) (w : World) : Prop :=
  ifb t78
  (s161_p6 K B1 B2 t2 t5 t7 t8 t9 t10 t16 t17 t18 t27 t28 t29 w)
  (s161_p3 K B1 B2 t2 t5 t7 t16 t17 t18 t27 t28 t29 w)
def s161_p7_den (K : Value → World → Prop) (M1 : (Nat → Value) → World → Prop) (M2 : (Nat → Value) → World → Prop) : (Nat → Value) → World → Prop := fun s w => ifb (ev s (.tmp 78)) ((s161_p6_den K M1 M2) s w) ((s161_p3_den K M1 M2) s w)
theorem s161_p7_ok (K : Value → World → Prop) (B1 : List Value → World → Prop) (B2 : List Value → World → Prop) (s : Nat → Value) (w : World) (h : s161_p7 K B1 B2 (s 2) (s 5) (s 7) (s 8) (s 9) (s 10) (s 16) (s 17) (s 18) (s 27) (s 28) (s 29) (s 78) w) : Tr (s161_p7_den K (fun s w => B1 [s 2, s 5, s 16, s 17, s 18] w) (fun s w => B2 [s 2, s 5, s 7, s 16, s 17, s 18, s 27, s 28, s 29] w) s w) :=
  tr_cond (v := ev s (.tmp 78)) (a := (fun s w => s161_p6 K B1 B2 (s 2) (s 5) (s 7) (s 8) (s 9) (s 10) (s 16) (s 17) (s 18) (s 27) (s 28) (s 29) w) s w) (a' := (s161_p6_den K (fun s w => B1 [s 2, s 5, s 16, s 17, s 18] w) (fun s w => B2 [s 2, s 5, s 7, s 16, s 17, s 18, s 27, s 28, s 29] w)) s w) (b := (fun s w => s161_p3 K B1 B2 (s 2) (s 5) (s 7) (s 16) (s 17) (s 18) (s 27) (s 28) (s 29) w) s w) (b' := (s161_p3_den K (fun s w => B1 [s 2, s 5, s 16, s 17, s 18] w) (fun s w => B2 [s 2, s 5, s 7, s 16, s 17, s 18, s 27, s 28, s 29] w)) s w) (p := s161_p7 K B1 B2 (s 2) (s 5) (s 7) (s 8) (s 9) (s 10) (s 16) (s 17) (s 18) (s 27) (s 28) (s 29) (s 78) w) (q := s161_p7_den K (fun s w => B1 [s 2, s 5, s 16, s 17, s 18] w) (fun s w => B2 [s 2, s 5, s 7, s 16, s 17, s 18, s 27, s 28, s 29] w) s w) ((fun s w h => s161_p6_ok K B1 B2 s w @h) s w) ((fun s w h => s161_p3_ok K B1 B2 s w @h) s w) (by kernel_rfl) (by kernel_rfl) @h
def s161_p8 (K : Value → World → Prop) (B1 : List Value → World → Prop) (B2 : List Value → World → Prop) (t2 t5 t7 t8 t9 t10 t16 t17 t18 t27 t28 t29 t72 : Value) (w : World) : Prop :=
  ifb t72
  (K (.bool false) w)
  (boI .add t8 (.int .i64 1) (fun t74 w =>
  fd 6 t7 (fun t75 w =>
  ld1 t75 (fun t76 w =>
  lnS t76 (fun t77 w =>
  boI .lss t74 t77 (fun t78 w =>
  s161_p7 K B1 B2 t2 t5 t7 t8 t9 t10 t16 t17 t18 t27 t28 t29 t78 w) w) w) w) w) w)
def s161_p8_den (K : Value → World → Prop) (M1 : (Nat → Value) → World → Prop) (M2 : (Nat → Value) → World → Prop) : (Nat → Value) → World → Prop := denL Tryz.prog [(cd (Tryz.f161.body.getD .skip) [1, 1, 0, 1, 0, 0, 1, 1, 0, 0, 1, 1, 1, 0, 0, 1, 1, 0, 0, 1, 1, 1, 0, 1]), (cd (Tryz.f161.body.getD .skip) [1, 1, 0, 1, 0, 0, 1, 1, 0, 0, 1, 1, 1, 0, 0, 1, 1, 0, 0, 1, 1, 1, 1, 0])] (s161_p7_den K M1 M2) (fun i => (bif Nat.beq i 3 then (s161_p3_den K M1 M2) else (bif Nat.beq i 2 then (s161_p2_den K M1) else (bif Nat.beq i 1 then (s161_p2_den K M1) else (bif Nat.beq i 0 then (s161_p1_den K) else (fun _ _ => False)))))) (s161_R K)
theorem s161_p8_ok (K : Value → World → Prop) (B1 : List Value → World → Prop) (B2 : List Value → World → Prop) (s : Nat → Value) (w : World) (h : s161_p8 K B1 B2 (s 2) (s 5) (s 7) (s 8) (s 9) (s 10) (s 16) (s 17) (s 18) (s 27) (s 28) (s 29) (s 72) w) : Tr (s161_p8_den K (fun s w => B1 [s 2, s 5, s 16, s 17, s 18] w) (fun s w => B2 [s 2, s 5, s 7, s 16, s 17, s 18, s 27, s 28, s 29] w) s w) :=
  tr_simple (P := Tryz.prog) (codes := [(cd (Tryz.f161.body.getD .skip) [1, 1, 0, 1, 0, 0, 1, 1, 0, 0, 1, 1, 1, 0, 0, 1, 1, 0, 0, 1, 1, 1, 0, 1]), (cd (Tryz.f161.body.getD .skip) [1, 1, 0, 1, 0, 0, 1, 1, 0, 0, 1, 1, 1, 0, 0, 1, 1, 0, 0, 1, 1, 1, 1, 0])]) (N := (fun s w => s161_p7 K B1 B2 (s 2) (s 5) (s 7) (s 8) (s 9) (s 10) (s 16) (s 17) (s 18) (s 27) (s 28) (s 29) (s 78) w)) (N' := (s161_p7_den K (fun s w => B1 [s 2, s 5, s 16, s 17, s 18] w) (fun s w => B2 [s 2, s 5, s 7, s 16, s 17, s 18, s 27, s 28, s 29] w))) (X := (fun i => (bif Nat.beq i 3 then (fun s w => s161_p3 K B1 B2 (s 2) (s 5) (s 7) (s 16) (s 17) (s 18) (s 27) (s 28) (s 29) w) else (bif Nat.beq i 2 then (fun s w => s161_p2 K B1 (s 2) (s 5) (s 16) (s 17) (s 18) w) else (bif Nat.beq i 1 then (fun s w => s161_p2 K B1 (s 2) (s 5) (s 16) (s 17) (s 18) w) else (bif Nat.beq i 0 then (fun s w => s161_p1 K w) else (fun _ _ => False))))))) (X' := (fun i => (bif Nat.beq i 3 then (s161_p3_den K (fun s w => B1 [s 2, s 5, s 16, s 17, s 18] w) (fun s w => B2 [s 2, s 5, s 7, s 16, s 17, s 18, s 27, s 28, s 29] w)) else (bif Nat.beq i 2 then (s161_p2_den K (fun s w => B1 [s 2, s 5, s 16, s 17, s 18] w)) else (bif Nat.beq i 1 then (s161_p2_den K (fun s w => B1 [s 2, s 5, s 16, s 17, s 18] w)) else (bif Nat.beq i 0 then (s161_p1_den K) else (fun _ _ => False))))))) (R := s161_R K) (s := s) (w := w) (p := s161_p8 K B1 B2 (s 2) (s 5) (s 7) (s 8) (s 9) (s 10) (s 16) (s 17) (s 18) (s 27) (s 28) (s 29) (s 72) w) (q := s161_p8_den K (fun s w => B1 [s 2, s 5, s 16, s 17, s 18] w) (fun s w => B2 [s 2, s 5, s 7, s 16, s 17, s 18, s 27, s 28, s 29] w) s w) (fun s w h => s161_p7_ok K B1 B2 s w @h) (fun i => (tr_bif (fun s w h => s161_p3_ok K B1 B2 s w @h) (tr_bif (fun s w h => s161_p2_ok K B1 s w @h) (tr_bif (fun s w h => s161_p2_ok K B1 s w @h) (tr_bif (fun s w h => s161_p1_ok K s w @h) tr_id))))) (by kernel_rfl) (by kernel_rfl) @h
def s161_p9_d (K : Value → World → Prop) (B1 : List Value → World → Prop) (B2 : List Value → World → Prop) (t2 t5 t7 t8 t9 t10 t16 t17 t18 t27 t28 t29 : Value) (w0 w : World) : Prop :=
  fd 0 t9 (fun t60 _ =>
  ld1 t60 (fun t61 _ =>
  fd 1 t9 (fun t62 _ =>
  ld1 t62 (fun t63 _ =>
  fd 2 t7 (fun t64 _ =>
  ld1 t64 (fun t65 _ =>
  fd 2 t7 (fun t67 _ =>
  ld1 t67 (fun t68 _ =>
  fd 2 t10 (fun t69 _ =>
  ixa 3 1 t69 t68 (fun t70 _ =>
  ld1 t70 (fun t71 _ =>
  cl Tryz.prog 199 #[t5, t61, t63, t65] (fun t66 w =>
  Below w0.heap.size w0 w ∧
  boI .gtr t66 t71 (fun t72 w =>
  s161_p8 K B1 B2 t2 t5 t7 t8 t9 t10 t16 t17 t18 t27 t28 t29 t72 w) w) w) w0) w0) w0) w0) w0) w0) w0) w0) w0) w0) w0
def s161_p9 (K : Value → World → Prop) (B1 : List Value → World → Prop) (B2 : List Value → World → Prop) (t2 t5 t7 t8 t9 t10 t16 t17 t18 t27 t28 t29 : Value) (w : World) : Prop := s161_p9_d K B1 B2 t2 t5 t7 t8 t9 t10 t16 t17 t18 t27 t28 t29 (drw w) (drw w)
def s161_p9_den (K : Value → World → Prop) (M1 : (Nat → Value) → World → Prop) (M2 : (Nat → Value) → World → Prop) : (Nat → Value) → World → Prop := denL Tryz.prog [(cd (Tryz.f161.body.getD .skip) [1, 1, 0, 1, 0, 0, 1, 1, 0, 0, 1, 1, 1, 0, 0, 1, 1, 0, 0, 1, 1, 1, 0, 0])] (s161_p8_den K M1 M2) (fun i => (bif Nat.beq i 3 then (s161_p3_den K M1 M2) else (bif Nat.beq i 2 then (s161_p2_den K M1) else (bif Nat.beq i 1 then (s161_p2_den K M1) else (bif Nat.beq i 0 then (s161_p1_den K) else (fun _ _ => False)))))) (s161_R K)
theorem s161_p9_ok (K : Value → World → Prop) (B1 : List Value → World → Prop) (B2 : List Value → World → Prop) (s : Nat → Value) (w : World) (h : s161_p9 K B1 B2 (s 2) (s 5) (s 7) (s 8) (s 9) (s 10) (s 16) (s 17) (s 18) (s 27) (s 28) (s 29) w) : Tr (s161_p9_den K (fun s w => B1 [s 2, s 5, s 16, s 17, s 18] w) (fun s w => B2 [s 2, s 5, s 7, s 16, s 17, s 18, s 27, s 28, s 29] w) s w) :=
  tr_draw (P := Tryz.prog) (ops := (ro (cd (Tryz.f161.body.getD .skip) [1, 1, 0, 1, 0, 0, 1, 1, 0, 0, 1, 1, 1, 0, 0, 1, 1, 0, 0, 1, 1, 1, 0, 0]))) (ms := [0, 0, 2, 0, 8, 0, 32, 127, 0, 256, 0, 1792, 3840, 8191]) (cs := [0, 1, 2, 3, 4, 5, 6, 8, 9, 10, 11, 12]) (N := (fun s w => s161_p8 K B1 B2 (s 2) (s 5) (s 7) (s 8) (s 9) (s 10) (s 16) (s 17) (s 18) (s 27) (s 28) (s 29) (s 72) w)) (N' := (s161_p8_den K (fun s w => B1 [s 2, s 5, s 16, s 17, s 18] w) (fun s w => B2 [s 2, s 5, s 7, s 16, s 17, s 18, s 27, s 28, s 29] w))) (s := s) (w := w) (p := s161_p9 K B1 B2 (s 2) (s 5) (s 7) (s 8) (s 9) (s 10) (s 16) (s 17) (s 18) (s 27) (s 28) (s 29) w) (q := s161_p9_den K (fun s w => B1 [s 2, s 5, s 16, s 17, s 18] w) (fun s w => B2 [s 2, s 5, s 7, s 16, s 17, s 18, s 27, s 28, s 29] w) s w) (by kernel_rfl) (by kernel_rfl) (fun s w h => s161_p8_ok K B1 B2 s w @h) (by kernel_rfl) (by kernel_rfl) @h
def s161_p10 (K : Value → World → Prop) (B1 : List Value → World → Prop) (B2 : List Value → World → Prop) (B3 : List Value → World → Prop) (t2 t5 t7 t8 t9 t10 t11 t16 t17 t18 t27 t28 t29 : Value) (w : World) : Prop :=
  boI .add t11 (.int .i64 1) (fun t50 w =>
  B3 [t2, t5, t7, t8, t9, t10, t50, t16, t17, t18, t27, t28, t29] w) w
def s161_p10_den (K : Value → World → Prop) (M1 : (Nat → Value) → World → Prop) (M2 : (Nat → Value) → World → Prop) (M3 : (Nat → Value) → World → Prop) : (Nat → Value) → World → Prop := denL Tryz.prog [(cd (Tryz.f161.body.getD .skip) [1, 1, 0, 1, 0, 0, 1, 1, 0, 0, 1, 1, 1, 0, 0, 1, 1, 0, 0, 1, 1, 0, 1, 0, 0, 1, 1])] M3 (fun i => (bif Nat.beq i 4 then (s161_p9_den K M1 M2) else (bif Nat.beq i 3 then (s161_p3_den K M1 M2) else (bif Nat.beq i 2 then (s161_p2_den K M1) else (bif Nat.beq i 1 then (s161_p2_den K M1) else (bif Nat.beq i 0 then (s161_p1_den K) else (fun _ _ => False))))))) (s161_R K)
theorem s161_p10_ok (K : Value → World → Prop) (B1 : List Value → World → Prop) (B2 : List Value → World → Prop) (B3 : List Value → World → Prop) (s : Nat → Value) (w : World) (h : s161_p10 K B1 B2 B3 (s 2) (s 5) (s 7) (s 8) (s 9) (s 10) (s 11) (s 16) (s 17) (s 18) (s 27) (s 28) (s 29) w) : Tr (s161_p10_den K (fun s w => B1 [s 2, s 5, s 16, s 17, s 18] w) (fun s w => B2 [s 2, s 5, s 7, s 16, s 17, s 18, s 27, s 28, s 29] w) (fun s w => B3 [s 2, s 5, s 7, s 8, s 9, s 10, s 11, s 16, s 17, s 18, s 27, s 28, s 29] w) s w) :=
  tr_simple (P := Tryz.prog) (codes := [(cd (Tryz.f161.body.getD .skip) [1, 1, 0, 1, 0, 0, 1, 1, 0, 0, 1, 1, 1, 0, 0, 1, 1, 0, 0, 1, 1, 0, 1, 0, 0, 1, 1])]) (N := (fun s w => B3 [s 2, s 5, s 7, s 8, s 9, s 10, s 11, s 16, s 17, s 18, s 27, s 28, s 29] w)) (N' := (fun s w => B3 [s 2, s 5, s 7, s 8, s 9, s 10, s 11, s 16, s 17, s 18, s 27, s 28, s 29] w)) (X := (fun i => (bif Nat.beq i 4 then (fun s w => s161_p9 K B1 B2 (s 2) (s 5) (s 7) (s 8) (s 9) (s 10) (s 16) (s 17) (s 18) (s 27) (s 28) (s 29) w) else (bif Nat.beq i 3 then (fun s w => s161_p3 K B1 B2 (s 2) (s 5) (s 7) (s 16) (s 17) (s 18) (s 27) (s 28) (s 29) w) else (bif Nat.beq i 2 then (fun s w => s161_p2 K B1 (s 2) (s 5) (s 16) (s 17) (s 18) w) else (bif Nat.beq i 1 then (fun s w => s161_p2 K B1 (s 2) (s 5) (s 16) (s 17) (s 18) w) else (bif Nat.beq i 0 then (fun s w => s161_p1 K w) else (fun _ _ => False)))))))) (X' := (fun i => (bif Nat.beq i 4 then (s161_p9_den K (fun s w => B1 [s 2, s 5, s 16, s 17, s 18] w) (fun s w => B2 [s 2, s 5, s 7, s 16, s 17, s 18, s 27, s 28, s 29] w)) else (bif Nat.beq i 3 then (s161_p3_den K (fun s w => B1 [s 2, s 5, s 16, s 17, s 18] w) (fun s w => B2 [s 2, s 5, s 7, s 16, s 17, s 18, s 27, s 28, s 29] w)) else (bif Nat.beq i 2 then (s161_p2_den K (fun s w => B1 [s 2, s 5, s 16, s 17, s 18] w)) else (bif Nat.beq i 1 then (s161_p2_den K (fun s w => B1 [s 2, s 5, s 16, s 17, s 18] w)) else (bif Nat.beq i 0 then (s161_p1_den K) else (fun _ _ => False)))))))) (R := s161_R K) (s := s) (w := w) (p := s161_p10 K B1 B2 B3 (s 2) (s 5) (s 7) (s 8) (s 9) (s 10) (s 11) (s 16) (s 17) (s 18) (s 27) (s 28) (s 29) w) (q := s161_p10_den K (fun s w => B1 [s 2, s 5, s 16, s 17, s 18] w) (fun s w => B2 [s 2, s 5, s 7, s 16, s 17, s 18, s 27, s 28, s 29] w) (fun s w => B3 [s 2, s 5, s 7, s 8, s 9, s 10, s 11, s 16, s 17, s 18, s 27, s 28, s 29] w) s w) tr_id (fun i => (tr_bif (fun s w h => s161_p9_ok K B1 B2 s w @h) (tr_bif (fun s w h => s161_p3_ok K B1 B2 s w @h) (tr_bif (fun s w h => s161_p2_ok K B1 s w @h) (tr_bif (fun s w h => s161_p2_ok K B1 s w @h) (tr_bif (fun s w h => s161_p1_ok K s w @h) tr_id)))))) (by kernel_rfl) (by kernel_rfl) @h
def s161_p11 (K : Value → World → Prop) (B1 : List Value → World → Prop) (B2 : List Value → World → Prop) (B3 : List Value → World → Prop) (t2 t5 t7 t8 t9 t10 t11 t16 t17 t18 t27 t28 t29 t58 : Value) (w : World) : Prop :=
  ifb t58
  (K (.bool false) w)
  (s161_p10 K B1 B2 B3 t2 t5 t7 t8 t9 t10 t11 t16 t17 t18 t27 t28 t29 w)
def s161_p11_den (K : Value → World → Prop) (M1 : (Nat → Value) → World → Prop) (M2 : (Nat → Value) → World → Prop) (M3 : (Nat → Value) → World → Prop) : (Nat → Value) → World → Prop := denL Tryz.prog [(cd (Tryz.f161.body.getD .skip) [1, 1, 0, 1, 0, 0, 1, 1, 0, 0, 1, 1, 1, 0, 0, 1, 1, 0, 0, 1, 1, 0, 1, 0, 0, 1, 0, 0, 1])] (s161_p10_den K M1 M2 M3) (fun i => (bif Nat.beq i 5 then (s161_p10_den K M1 M2 M3) else (bif Nat.beq i 4 then (s161_p9_den K M1 M2) else (bif Nat.beq i 3 then (s161_p3_den K M1 M2) else (bif Nat.beq i 2 then (s161_p2_den K M1) else (bif Nat.beq i 1 then (s161_p2_den K M1) else (bif Nat.beq i 0 then (s161_p1_den K) else (fun _ _ => False)))))))) (s161_R K)
theorem s161_p11_ok (K : Value → World → Prop) (B1 : List Value → World → Prop) (B2 : List Value → World → Prop) (B3 : List Value → World → Prop) (s : Nat → Value) (w : World) (h : s161_p11 K B1 B2 B3 (s 2) (s 5) (s 7) (s 8) (s 9) (s 10) (s 11) (s 16) (s 17) (s 18) (s 27) (s 28) (s 29) (s 58) w) : Tr (s161_p11_den K (fun s w => B1 [s 2, s 5, s 16, s 17, s 18] w) (fun s w => B2 [s 2, s 5, s 7, s 16, s 17, s 18, s 27, s 28, s 29] w) (fun s w => B3 [s 2, s 5, s 7, s 8, s 9, s 10, s 11, s 16, s 17, s 18, s 27, s 28, s 29] w) s w) :=
  tr_simple (P := Tryz.prog) (codes := [(cd (Tryz.f161.body.getD .skip) [1, 1, 0, 1, 0, 0, 1, 1, 0, 0, 1, 1, 1, 0, 0, 1, 1, 0, 0, 1, 1, 0, 1, 0, 0, 1, 0, 0, 1])]) (N := (fun s w => s161_p10 K B1 B2 B3 (s 2) (s 5) (s 7) (s 8) (s 9) (s 10) (s 11) (s 16) (s 17) (s 18) (s 27) (s 28) (s 29) w)) (N' := (s161_p10_den K (fun s w => B1 [s 2, s 5, s 16, s 17, s 18] w) (fun s w => B2 [s 2, s 5, s 7, s 16, s 17, s 18, s 27, s 28, s 29] w) (fun s w => B3 [s 2, s 5, s 7, s 8, s 9, s 10, s 11, s 16, s 17, s 18, s 27, s 28, s 29] w))) (X := (fun i => (bif Nat.beq i 5 then (fun s w => s161_p10 K B1 B2 B3 (s 2) (s 5) (s 7) (s 8) (s 9) (s 10) (s 11) (s 16) (s 17) (s 18) (s 27) (s 28) (s 29) w) else (bif Nat.beq i 4 then (fun s w => s161_p9 K B1 B2 (s 2) (s 5) (s 7) (s 8) (s 9) (s 10) (s 16) (s 17) (s 18) (s 27) (s 28) (s 29) w) else (bif Nat.beq i 3 then (fun s w => s161_p3 K B1 B2 (s 2) (s 5) (s 7) (s 16) (s 17) (s 18) (s 27) (s 28) (s 29) w) else (bif Nat.beq i 2 then (fun s w => s161_p2 K B1 (s 2) (s 5) (s 16) (s 17) (s 18) w) else (bif Nat.beq i 1 then (fun s w => s161_p2 K B1 (s 2) (s 5) (s 16) (s 17) (s 18) w) else (bif Nat.beq i 0 then (fun s w => s161_p1 K w) else (fun _ _ => False))))))))) (X' := (fun i => (bif Nat.beq i 5 then (s161_p10_den K (fun s w => B1 [s 2, s 5, s 16, s 17, s 18] w) (fun s w => B2 [s 2, s 5, s 7, s 16, s 17, s 18, s 27, s 28, s 29] w) (fun s w => B3 [s 2, s 5, s 7, s 8, s 9, s 10, s 11, s 16, s 17, s 18, s 27, s 28, s 29] w)) else (bif Nat.beq i 4 then (s161_p9_den K (fun s w => B1 [s 2, s 5, s 16, s 17, s 18] w) (fun s w => B2 [s 2, s 5, s 7, s 16, s 17, s 18, s 27, s 28, s 29] w)) else (bif Nat.beq i 3 then (s161_p3_den K (fun s w => B1 [s 2, s 5, s 16, s 17, s 18] w) (fun s w => B2 [s 2, s 5, s 7, s 16, s 17, s 18, s 27, s 28, s 29] w)) else (bif Nat.beq i 2 then (s161_p2_den K (fun s w => B1 [s 2, s 5, s 16, s 17, s 18] w)) else (bif Nat.beq i 1 then (s161_p2_den K (fun s w => B1 [s 2, s 5, s 16, s 17, s 18] w)) else (bif Nat.beq i 0 then (s161_p1_den K) else (fun _ _ => False))))))))) (R := s161_R K) (s := s) (w := w) (p := s161_p11 K B1 B2 B3 (s 2) (s 5) (s 7) (s 8) (s 9) (s 10) (s 11) (s 16) (s 17) (s 18) (s 27) (s 28) (s 29) (s 58) w) (q := s161_p11_den K (fun s w => B1 [s 2, s 5, s 16, s 17, s 18] w) (fun s w => B2 [s 2, s 5, s 7, s 16, s 17, s 18, s 27, s 28, s 29] w) (fun s w => B3 [s 2, s 5, s 7, s 8, s 9, s 10, s 11, s 16, s 17, s 18, s 27, s 28, s 29] w) s w) (fun s w h => s161_p10_ok K B1 B2 B3 s w @h) (fun i => (tr_bif (fun s w h => s161_p10_ok K B1 B2 B3 s w @h) (tr_bif (fun s w h => s161_p9_ok K B1 B2 s w @h) (tr_bif (fun s w h => s161_p3_ok K B1 B2 s w @h) (tr_bif (fun s w h => s161_p2_ok K B1 s w @h) (tr_bif (fun s w h => s161_p2_ok K B1 s w @h) (tr_bif (fun s w h => s161_p1_ok K s w @h) tr_id))))))) (by kernel_rfl) (by kernel_rfl) @h
def s161_p12_d (K : Value → World → Prop) (B1 : List Value → World → Prop) (B2 : List Value → World → Prop) (B3 : List Value → World → Prop) (t2 t5 t7 t8 t9 t10 t11 t16 t17 t18 t27 t28 t29 : Value) (w0 w : World) : Prop :=
  fd 0 t9 (fun t52 _ =>
  ld1 t52 (fun t53 _ =>
  fd 0 t10 (fun t56 _ =>
  ld1 t56 (fun t57 _ =>
  cl Tryz.prog 198 #[t5, t53, t11] (fun t55 w =>
  Below w0.heap.size w0 w ∧
  boI .gtr t55 t57 (fun t58 w =>
  s161_p11 K B1 B2 B3 t2 t5 t7 t8 t9 t10 t11 t16 t17 t18 t27 t28 t29 t58 w) w) w) w0) w0) w0) w0
def s161_p12 (K : Value → World → Prop) (B1 : List Value → World → Prop) (B2 : List Value → World → Prop) (B3 : List Value → World → Prop) (t2 t5 t7 t8 t9 t10 t11 t16 t17 t18 t27 t28 t29 : Value) (w : World) : Prop := s161_p12_d K B1 B2 B3 t2 t5 t7 t8 t9 t10 t11 t16 t17 t18 t27 t28 t29 (drw w) (drw w)
def s161_p12_den (K : Value → World → Prop) (M1 : (Nat → Value) → World → Prop) (M2 : (Nat → Value) → World → Prop) (M3 : (Nat → Value) → World → Prop) : (Nat → Value) → World → Prop := denL Tryz.prog [(cd (Tryz.f161.body.getD .skip) [1, 1, 0, 1, 0, 0, 1, 1, 0, 0, 1, 1, 1, 0, 0, 1, 1, 0, 0, 1, 1, 0, 1, 0, 0, 1, 0, 0, 0])] (s161_p11_den K M1 M2 M3) (fun i => (bif Nat.beq i 5 then (s161_p10_den K M1 M2 M3) else (bif Nat.beq i 4 then (s161_p9_den K M1 M2) else (bif Nat.beq i 3 then (s161_p3_den K M1 M2) else (bif Nat.beq i 2 then (s161_p2_den K M1) else (bif Nat.beq i 1 then (s161_p2_den K M1) else (bif Nat.beq i 0 then (s161_p1_den K) else (fun _ _ => False)))))))) (s161_R K)
theorem s161_p12_ok (K : Value → World → Prop) (B1 : List Value → World → Prop) (B2 : List Value → World → Prop) (B3 : List Value → World → Prop) (s : Nat → Value) (w : World) (h : s161_p12 K B1 B2 B3 (s 2) (s 5) (s 7) (s 8) (s 9) (s 10) (s 11) (s 16) (s 17) (s 18) (s 27) (s 28) (s 29) w) : Tr (s161_p12_den K (fun s w => B1 [s 2, s 5, s 16, s 17, s 18] w) (fun s w => B2 [s 2, s 5, s 7, s 16, s 17, s 18, s 27, s 28, s 29] w) (fun s w => B3 [s 2, s 5, s 7, s 8, s 9, s 10, s 11, s 16, s 17, s 18, s 27, s 28, s 29] w) s w) :=
  tr_draw (P := Tryz.prog) (ops := (ro (cd (Tryz.f161.body.getD .skip) [1, 1, 0, 1, 0, 0, 1, 1, 0, 0, 1, 1, 1, 0, 0, 1, 1, 0, 0, 1, 1, 0, 1, 0, 0, 1, 0, 0, 0]))) (ms := [0, 0, 2, 0, 15, 0, 32, 127]) (cs := [0, 1, 2, 3, 5, 6]) (N := (fun s w => s161_p11 K B1 B2 B3 (s 2) (s 5) (s 7) (s 8) (s 9) (s 10) (s 11) (s 16) (s 17) (s 18) (s 27) (s 28) (s 29) (s 58) w)) (N' := (s161_p11_den K (fun s w => B1 [s 2, s 5, s 16, s 17, s 18] w) (fun s w => B2 [s 2, s 5, s 7, s 16, s 17, s 18, s 27, s 28, s 29] w) (fun s w => B3 [s 2, s 5, s 7, s 8, s 9, s 10, s 11, s 16, s 17, s 18, s 27, s 28, s 29] w))) (s := s) (w := w) (p := s161_p12 K B1 B2 B3 (s 2) (s 5) (s 7) (s 8) (s 9) (s 10) (s 11) (s 16) (s 17) (s 18) (s 27) (s 28) (s 29) w) (q := s161_p12_den K (fun s w => B1 [s 2, s 5, s 16, s 17, s 18] w) (fun s w => B2 [s 2, s 5, s 7, s 16, s 17, s 18, s 27, s 28, s 29] w) (fun s w => B3 [s 2, s 5, s 7, s 8, s 9, s 10, s 11, s 16, s 17, s 18, s 27, s 28, s 29] w) s w) (by kernel_rfl) (by kernel_rfl) (fun s w h => s161_p11_ok K B1 B2 B3 s w @h) (by kernel_rfl) (by kernel_rfl) @h
def s161_p13 (K : Value → World → Prop) (B1 : List Value → World → Prop) (B2 : List Value → World → Prop) (B3 : List Value → World → Prop) (t2 t5 t7 t8 t9 t10 t11 t16 t17 t18 t27 t28 t29 : Value) (w : World) : Prop :=
  fd 1 t9 (fun t43 w =>
  ld1 t43 (fun t44 w =>
  fd 1 t10 (fun t45 w =>
  ld1 t45 (fun t46 w =>
  boI .add t44 t46 (fun t47 w =>
  boI .lss t11 t47 (fun t48 w =>
  ifb t48
  (s161_p12 K B1 B2 B3 t2 t5 t7 t8 t9 t10 t11 t16 t17 t18 t27 t28 t29 w)
  (s161_p9 K B1 B2 t2 t5 t7 t8 t9 t10 t16 t17 t18 t27 t28 t29 w)) w) w) w) w) w) w
def s161_p13_den (K : Value → World → Prop) (M1 : (Nat → Value) → World → Prop) (M2 : (Nat → Value) → World → Prop) (M3 : (Nat → Value) → World → Prop) : (Nat → Value) → World → Prop := denL Tryz.prog [(cd (Tryz.f161.body.getD .skip) [1, 1, 0, 1, 0, 0, 1, 1, 0, 0, 1, 1, 1, 0, 0, 1, 1, 0, 0, 1, 1, 0, 1, 0, 0, 0, 0]), (cd (Tryz.f161.body.getD .skip) [1, 1, 0, 1, 0, 0, 1, 1, 0, 0, 1, 1, 1, 0, 0, 1, 1, 0, 0, 1, 1, 0, 1, 0, 0, 0, 1])] (s161_p12_den K M1 M2 M3) (fun i => (bif Nat.beq i 4 then (s161_p9_den K M1 M2) else (bif Nat.beq i 3 then (s161_p3_den K M1 M2) else (bif Nat.beq i 2 then (s161_p2_den K M1) else (bif Nat.beq i 1 then (s161_p2_den K M1) else (bif Nat.beq i 0 then (s161_p1_den K) else (fun _ _ => False))))))) (s161_R K)
theorem s161_p13_ok (K : Value → World → Prop) (B1 : List Value → World → Prop) (B2 : List Value → World → Prop) (B3 : List Value → World → Prop) (s : Nat → Value) (w : World) (h : s161_p13 K B1 B2 B3 (s 2) (s 5) (s 7) (s 8) (s 9) (s 10) (s 11) (s 16) (s 17) (s 18) (s 27) (s 28) (s 29) w) : Tr (s161_p13_den K (fun s w => B1 [s 2, s 5, s 16, s 17, s 18] w) (fun s w => B2 [s 2, s 5, s 7, s 16, s 17, s 18, s 27, s 28, s 29] w) (fun s w => B3 [s 2, s 5, s 7, s 8, s 9, s 10, s 11, s 16, s 17, s 18, s 27, s 28, s 29] w) s w) :=
  tr_simple (P := Tryz.prog) (codes := [(cd (Tryz.f161.body.getD .skip) [1, 1, 0, 1, 0, 0, 1, 1, 0, 0, 1, 1, 1, 0, 0, 1, 1, 0, 0, 1, 1, 0, 1, 0, 0, 0, 0]), (cd (Tryz.f161.body.getD .skip) [1, 1, 0, 1, 0, 0, 1, 1, 0, 0, 1, 1, 1, 0, 0, 1, 1, 0, 0, 1, 1, 0, 1, 0, 0, 0, 1])]) (N := (fun s w => s161_p12 K B1 B2 B3 (s 2) (s 5) (s 7) (s 8) (s 9) (s 10) (s 11) (s 16) (s 17) (s 18) (s 27) (s 28) (s 29) w)) (N' := (s161_p12_den K (fun s w => B1 [s 2, s 5, s 16, s 17, s 18] w) (fun s w => B2 [s 2, s 5, s 7, s 16, s 17, s 18, s 27, s 28, s 29] w) (fun s w => B3 [s 2, s 5, s 7, s 8, s 9, s 10, s 11, s 16, s 17, s 18, s 27, s 28, s 29] w))) (X := (fun i => (bif Nat.beq i 4 then (fun s w => s161_p9 K B1 B2 (s 2) (s 5) (s 7) (s 8) (s 9) (s 10) (s 16) (s 17) (s 18) (s 27) (s 28) (s 29) w) else (bif Nat.beq i 3 then (fun s w => s161_p3 K B1 B2 (s 2) (s 5) (s 7) (s 16) (s 17) (s 18) (s 27) (s 28) (s 29) w) else (bif Nat.beq i 2 then (fun s w => s161_p2 K B1 (s 2) (s 5) (s 16) (s 17) (s 18) w) else (bif Nat.beq i 1 then (fun s w => s161_p2 K B1 (s 2) (s 5) (s 16) (s 17) (s 18) w) else (bif Nat.beq i 0 then (fun s w => s161_p1 K w) else (fun _ _ => False)))))))) (X' := (fun i => (bif Nat.beq i 4 then (s161_p9_den K (fun s w => B1 [s 2, s 5, s 16, s 17, s 18] w) (fun s w => B2 [s 2, s 5, s 7, s 16, s 17, s 18, s 27, s 28, s 29] w)) else (bif Nat.beq i 3 then (s161_p3_den K (fun s w => B1 [s 2, s 5, s 16, s 17, s 18] w) (fun s w => B2 [s 2, s 5, s 7, s 16, s 17, s 18, s 27, s 28, s 29] w)) else (bif Nat.beq i 2 then (s161_p2_den K (fun s w => B1 [s 2, s 5, s 16, s 17, s 18] w)) else (bif Nat.beq i 1 then (s161_p2_den K (fun s w => B1 [s 2, s 5, s 16, s 17, s 18] w)) else (bif Nat.beq i 0 then (s161_p1_den K) else (fun _ _ => False)))))))) (R := s161_R K) (s := s) (w := w) (p := s161_p13 K B1 B2 B3 (s 2) (s 5) (s 7) (s 8) (s 9) (s 10) (s 11) (s 16) (s 17) (s 18) (s 27) (s 28) (s 29) w) (q := s161_p13_den K (fun s w => B1 [s 2, s 5, s 16, s 17, s 18] w) (fun s w => B2 [s 2, s 5, s 7, s 16, s 17, s 18, s 27, s 28, s 29] w) (fun s w => B3 [s 2, s 5, s 7, s 8, s 9, s 10, s 11, s 16, s 17, s 18, s 27, s 28, s 29] w) s w) (fun s w h => s161_p12_ok K B1 B2 B3 s w @h) (fun i => (tr_bif (fun s w h => s161_p9_ok K B1 B2 s w @h) (tr_bif (fun s w h => s161_p3_ok K B1 B2 s w @h) (tr_bif (fun s w h => s161_p2_ok K B1 s w @h) (tr_bif (fun s w h => s161_p2_ok K B1 s w @h) (tr_bif (fun s w h => s161_p1_ok K s w @h) tr_id)))))) (by kernel_rfl) (by kernel_rfl) @h
def s161_p14_F (K : Value → World → Prop) (B1 : List Value → World → Prop) (B2 : List Value → World → Prop) (B3 : List Value → World → Prop) (l : List Value) (w : World) : Prop :=
  match l with
  | [t2, t5, t7, t8, t9, t10, t11, t16, t17, t18, t27, t28, t29] => s161_p13 K B1 B2 B3 t2 t5 t7 t8 t9 t10 t11 t16 t17 t18 t27 t28 t29 w
  | _ => False
theorem s161_p14_Fe {K : Value → World → Prop} {B1 : List Value → World → Prop} {B2 : List Value → World → Prop} {B3 : List Value → World → Prop} {t2 t5 t7 t8 t9 t10 t11 t16 t17 t18 t27 t28 t29 : Value} {w : World} : s161_p14_F K B1 B2 B3 [t2, t5, t7, t8, t9, t10, t11, t16, t17, t18, t27, t28, t29] w = s161_p13 K B1 B2 B3 t2 t5 t7 t8 t9 t10 t11 t16 t17 t18 t27 t28 t29 w := by kernel_rfl
def s161_p14 (K : Value → World → Prop) (B1 : List Value → World → Prop) (B2 : List Value → World → Prop) (t2 t5 t7 t8 t9 t10 t11 t16 t17 t18 t27 t28 t29 : Value) (w : World) : Prop :=
  LoopL (s161_p14_F K B1 B2) [t2, t5, t7, t8, t9, t10, t11, t16, t17, t18, t27, t28, t29] w
def s161_p14_den (K : Value → World → Prop) (M1 : (Nat → Value) → World → Prop) (M2 : (Nat → Value) → World → Prop) : (Nat → Value) → World → Prop := fun s w => LoopP (fun M3 s w => s161_p13_den K M1 M2 M3 s w) s w
theorem s161_p14_ok (K : Value → World → Prop) (B1 : List Value → World → Prop) (B2 : List Value → World → Prop) (s : Nat → Value) (w : World) (h : s161_p14 K B1 B2 (s 2) (s 5) (s 7) (s 8) (s 9) (s 10) (s 11) (s 16) (s 17) (s 18) (s 27) (s 28) (s 29) w) : Tr (s161_p14_den K (fun s w => B1 [s 2, s 5, s 16, s 17, s 18] w) (fun s w => B2 [s 2, s 5, s 7, s 16, s 17, s 18, s 27, s 28, s 29] w) s w) :=
  tr_loop (G := fun N' s w => s161_p13_den K (fun s w => B1 [s 2, s 5, s 16, s 17, s 18] w) (fun s w => B2 [s 2, s 5, s 7, s 16, s 17, s 18, s 27, s 28, s 29] w) N' s w) (F := s161_p14_F K B1 B2) (sel := fun s => [s 2, s 5, s 7, s 8, s 9, s 10, s 11, s 16, s 17, s 18, s 27, s 28, s 29]) (s := s) (w := w) (p := s161_p14 K B1 B2 (s 2) (s 5) (s 7) (s 8) (s 9) (s 10) (s 11) (s 16) (s 17) (s 18) (s 27) (s 28) (s 29) w) (q := s161_p14_den K (fun s w => B1 [s 2, s 5, s 16, s 17, s 18] w) (fun s w => B2 [s 2, s 5, s 7, s 16, s 17, s 18, s 27, s 28, s 29] w) s w) (fun B s w h => s161_p13_ok K B1 B2 B s w @h) (by kernel_rfl) (by kernel_rfl) @h
def s161_p15 (K : Value → World → Prop) (B1 : List Value → World → Prop) (B2 : List Value → World → Prop) (t2 t5 t7 t16 t17 t18 t27 t28 t29 : Value) (w : World) : Prop :=
  ixs 2 t27 t29 (fun t32 w =>
  ldn 2 t32 (fun t33 w =>
  nw 88 #[(.int .i64 0), (.int .i64 0)] (fun t9 w =>
  stn 2 t9 t33 (fun w =>
  fd 0 t2 (fun t34 w =>
  ld1 t34 (fun t35 w =>
  fd 0 t9 (fun t36 w =>
  ld1 t36 (fun t37 w =>
  ixs 5 t35 t37 (fun t38 w =>
  ldn 5 t38 (fun t39 w =>
  nw 113 #[(.int .i64 0), (.int .i64 0), (.int .i64 0), (.int .i64 0), (.int .i64 0)] (fun t10 w =>
  stn 5 t10 t39 (fun w =>
  fd 1 t9 (fun t40 w =>
  ld1 t40 (fun t41 w =>
  s161_p14 K B1 B2 t2 t5 t7 t29 t9 t10 t41 t16 t17 t18 t27 t28 t29 w) w) w) w) w) w) w) w) w) w) w) w) w) w) w
def s161_p15_den (K : Value → World → Prop) (M1 : (Nat → Value) → World → Prop) (M2 : (Nat → Value) → World → Prop) : (Nat → Value) → World → Prop := denL Tryz.prog [(cd (Tryz.f161.body.getD .skip) [1, 1, 0, 1, 0, 0, 1, 1, 0, 0, 1, 1, 1, 0, 0, 1, 1, 0, 0, 0]), (cd (Tryz.f161.body.getD .skip) [1, 1, 0, 1, 0, 0, 1, 1, 0, 0, 1, 1, 1, 0, 0, 1, 1, 0, 0, 1, 0]), (cd (Tryz.f161.body.getD .skip) [1, 1, 0, 1, 0, 0, 1, 1, 0, 0, 1, 1, 1, 0, 0, 1, 1, 0, 0, 1, 1, 0, 0])] (s161_p14_den K M1 M2) (fun i => (bif Nat.beq i 3 then (s161_p3_den K M1 M2) else (bif Nat.beq i 2 then (s161_p2_den K M1) else (bif Nat.beq i 1 then (s161_p2_den K M1) else (bif Nat.beq i 0 then (s161_p1_den K) else (fun _ _ => False)))))) (s161_R K)
theorem s161_p15_ok (K : Value → World → Prop) (B1 : List Value → World → Prop) (B2 : List Value → World → Prop) (s : Nat → Value) (w : World) (h : s161_p15 K B1 B2 (s 2) (s 5) (s 7) (s 16) (s 17) (s 18) (s 27) (s 28) (s 29) w) : Tr (s161_p15_den K (fun s w => B1 [s 2, s 5, s 16, s 17, s 18] w) (fun s w => B2 [s 2, s 5, s 7, s 16, s 17, s 18, s 27, s 28, s 29] w) s w) :=
  tr_simple (P := Tryz.prog) (codes := [(cd (Tryz.f161.body.getD .skip) [1, 1, 0, 1, 0, 0, 1, 1, 0, 0, 1, 1, 1, 0, 0, 1, 1, 0, 0, 0]), (cd (Tryz.f161.body.getD .skip) [1, 1, 0, 1, 0, 0, 1, 1, 0, 0, 1, 1, 1, 0, 0, 1, 1, 0, 0, 1, 0]), (cd (Tryz.f161.body.getD .skip) [1, 1, 0, 1, 0, 0, 1, 1, 0, 0, 1, 1, 1, 0, 0, 1, 1, 0, 0, 1, 1, 0, 0])]) (N := (fun s w => s161_p14 K B1 B2 (s 2) (s 5) (s 7) (s 8) (s 9) (s 10) (s 11) (s 16) (s 17) (s 18) (s 27) (s 28) (s 29) w)) (N' := (s161_p14_den K (fun s w => B1 [s 2, s 5, s 16, s 17, s 18] w) (fun s w => B2 [s 2, s 5, s 7, s 16, s 17, s 18, s 27, s 28, s 29] w))) (X := (fun i => (bif Nat.beq i 3 then (fun s w => s161_p3 K B1 B2 (s 2) (s 5) (s 7) (s 16) (s 17) (s 18) (s 27) (s 28) (s 29) w) else (bif Nat.beq i 2 then (fun s w => s161_p2 K B1 (s 2) (s 5) (s 16) (s 17) (s 18) w) else (bif Nat.beq i 1 then (fun s w => s161_p2 K B1 (s 2) (s 5) (s 16) (s 17) (s 18) w) else (bif Nat.beq i 0 then (fun s w => s161_p1 K w) else (fun _ _ => False))))))) (X' := (fun i => (bif Nat.beq i 3 then (s161_p3_den K (fun s w => B1 [s 2, s 5, s 16, s 17, s 18] w) (fun s w => B2 [s 2, s 5, s 7, s 16, s 17, s 18, s 27, s 28, s 29] w)) else (bif Nat.beq i 2 then (s161_p2_den K (fun s w => B1 [s 2, s 5, s 16, s 17, s 18] w)) else (bif Nat.beq i 1 then (s161_p2_den K (fun s w => B1 [s 2, s 5, s 16, s 17, s 18] w)) else (bif Nat.beq i 0 then (s161_p1_den K) else (fun _ _ => False))))))) (R := s161_R K) (s := s) (w := w) (p := s161_p15 K B1 B2 (s 2) (s 5) (s 7) (s 16) (s 17) (s 18) (s 27) (s 28) (s 29) w) (q := s161_p15_den K (fun s w => B1 [s 2, s 5, s 16, s 17, s 18] w) (fun s w => B2 [s 2, s 5, s 7, s 16, s 17, s 18, s 27, s 28, s 29] w) s w) (fun s w h => s161_p14_ok K B1 B2 s w @h) (fun i => (tr_bif (fun s w h => s161_p3_ok K B1 B2 s w @h) (tr_bif (fun s w h => s161_p2_ok K B1 s w @h) (tr_bif (fun s w h => s161_p2_ok K B1 s w @h) (tr_bif (fun s w h => s161_p1_ok K s w @h) tr_id))))) (by kernel_rfl) (by kernel_rfl) @h
def s161_p16 (K : Value → World → Prop) (B1 : List Value → World → Prop) (B2 : List Value → World → Prop) (t2 t5 t7 t16 t17 t18 t27 t28 t29 : Value) (w : World) : Prop :=
  boI .lss t29 t28 (fun t30 w =>
  ifb t30
  (s161_p15 K B1 B2 t2 t5 t7 t16 t17 t18 t27 t28 t29 w)
  (s161_p2 K B1 t2 t5 t16 t17 t18 w)) w
def s161_p16_den (K : Value → World → Prop) (M1 : (Nat → Value) → World → Prop) (M2 : (Nat → Value) → World → Prop) : (Nat → Value) → World → Prop := denL Tryz.prog [(cd (Tryz.f161.body.getD .skip) [1, 1, 0, 1, 0, 0, 1, 1, 0, 0, 1, 1, 1, 0, 0, 0]), (cd (Tryz.f161.body.getD .skip) [1, 1, 0, 1, 0, 0, 1, 1, 0, 0, 1, 1, 1, 0, 0, 1, 0])] (s161_p15_den K M1 M2) (fun i => (bif Nat.beq i 2 then (s161_p2_den K M1) else (bif Nat.beq i 1 then (s161_p2_den K M1) else (bif Nat.beq i 0 then (s161_p1_den K) else (fun _ _ => False))))) (s161_R K)
theorem s161_p16_ok (K : Value → World → Prop) (B1 : List Value → World → Prop) (B2 : List Value → World → Prop) (s : Nat → Value) (w : World) (h : s161_p16 K B1 B2 (s 2) (s 5) (s 7) (s 16) (s 17) (s 18) (s 27) (s 28) (s 29) w) : Tr (s161_p16_den K (fun s w => B1 [s 2, s 5, s 16, s 17, s 18] w) (fun s w => B2 [s 2, s 5, s 7, s 16, s 17, s 18, s 27, s 28, s 29] w) s w) :=
  tr_simple (P := Tryz.prog) (codes := [(cd (Tryz.f161.body.getD .skip) [1, 1, 0, 1, 0, 0, 1, 1, 0, 0, 1, 1, 1, 0, 0, 0]), (cd (Tryz.f161.body.getD .skip) [1, 1, 0, 1, 0, 0, 1, 1, 0, 0, 1, 1, 1, 0, 0, 1, 0])]) (N := (fun s w => s161_p15 K B1 B2 (s 2) (s 5) (s 7) (s 16) (s 17) (s 18) (s 27) (s 28) (s 29) w)) (N' := (s161_p15_den K (fun s w => B1 [s 2, s 5, s 16, s 17, s 18] w) (fun s w => B2 [s 2, s 5, s 7, s 16, s 17, s 18, s 27, s 28, s 29] w))) (X := (fun i => (bif Nat.beq i 2 then (fun s w => s161_p2 K B1 (s 2) (s 5) (s 16) (s 17) (s 18) w) else (bif Nat.beq i 1 then (fun s w => s161_p2 K B1 (s 2) (s 5) (s 16) (s 17) (s 18) w) else (bif Nat.beq i 0 then (fun s w => s161_p1 K w) else (fun _ _ => False)))))) (X' := (fun i => (bif Nat.beq i 2 then (s161_p2_den K (fun s w => B1 [s 2, s 5, s 16, s 17, s 18] w)) else (bif Nat.beq i 1 then (s161_p2_den K (fun s w => B1 [s 2, s 5, s 16, s 17, s 18] w)) else (bif Nat.beq i 0 then (s161_p1_den K) else (fun _ _ => False)))))) (R := s161_R K) (s := s) (w := w) (p := s161_p16 K B1 B2 (s 2) (s 5) (s 7) (s 16) (s 17) (s 18) (s 27) (s 28) (s 29) w) (q := s161_p16_den K (fun s w => B1 [s 2, s 5, s 16, s 17, s 18] w) (fun s w => B2 [s 2, s 5, s 7, s 16, s 17, s 18, s 27, s 28, s 29] w) s w) (fun s w h => s161_p15_ok K B1 B2 s w @h) (fun i => (tr_bif (fun s w h => s161_p2_ok K B1 s w @h) (tr_bif (fun s w h => s161_p2_ok K B1 s w @h) (tr_bif (fun s w h => s161_p1_ok K s w @h) tr_id)))) (by kernel_rfl) (by kernel_rfl) @h
def s161_p17_F (K : Value → World → Prop) (B1 : List Value → World → Prop) (B2 : List Value → World → Prop) (l : List Value) (w : World) : Prop :=
  match l with
  | [t2, t5, t7, t16, t17, t18, t27, t28, t29] => s161_p16 K B1 B2 t2 t5 t7 t16 t17 t18 t27 t28 t29 w
  | _ => False
theorem s161_p17_Fe {K : Value → World → Prop} {B1 : List Value → World → Prop} {B2 : List Value → World → Prop} {t2 t5 t7 t16 t17 t18 t27 t28 t29 : Value} {w : World} : s161_p17_F K B1 B2 [t2, t5, t7, t16, t17, t18, t27, t28, t29] w = s161_p16 K B1 B2 t2 t5 t7 t16 t17 t18 t27 t28 t29 w := by kernel_rfl
def s161_p17 (K : Value → World → Prop) (B1 : List Value → World → Prop) (t2 t5 t7 t16 t17 t18 t27 t28 t29 : Value) (w : World) : Prop :=
  LoopL (s161_p17_F K B1) [t2, t5, t7, t16, t17, t18, t27, t28, t29] w
def s161_p17_den (K : Value → World → Prop) (M1 : (Nat → Value) → World → Prop) : (Nat → Value) → World → Prop := fun s w => LoopP (fun M2 s w => s161_p16_den K M1 M2 s w) s w
theorem s161_p17_ok (K : Value → World → Prop) (B1 : List Value → World → Prop) (s : Nat → Value) (w : World) (h : s161_p17 K B1 (s 2) (s 5) (s 7) (s 16) (s 17) (s 18) (s 27) (s 28) (s 29) w) : Tr (s161_p17_den K (fun s w => B1 [s 2, s 5, s 16, s 17, s 18] w) s w) :=
  tr_loop (G := fun N' s w => s161_p16_den K (fun s w => B1 [s 2, s 5, s 16, s 17, s 18] w) N' s w) (F := s161_p17_F K B1) (sel := fun s => [s 2, s 5, s 7, s 16, s 17, s 18, s 27, s 28, s 29]) (s := s) (w := w) (p := s161_p17 K B1 (s 2) (s 5) (s 7) (s 16) (s 17) (s 18) (s 27) (s 28) (s 29) w) (q := s161_p17_den K (fun s w => B1 [s 2, s 5, s 16, s 17, s 18] w) s w) (fun B s w h => s161_p16_ok K B1 B s w @h) (by kernel_rfl) (by kernel_rfl) @h
def s161_p18 (K : Value → World → Prop) (B1 : List Value → World → Prop) (t2 t5 t16 t17 t18 : Value) (w : World) : Prop :=
  ixs 7 t16 t18 (fun t20 w =>
  ldn 7 t20 (fun t21 w =>
  nw 85 #[(.int .i64 0), (.int .i64 0), (.int .i64 0), (.int .i64 0), (.int .i64 0), (.int .i64 0), (.slice none 0 0)] (fun t7 w =>
  stn 7 t7 t21 (fun w =>
  fd 1 t7 (fun t22 w =>
  ld1 t22 (fun t23 w =>
  cl Tryz.prog 197 #[t23] (fun t24 w =>
  un .not t24 (fun t25 w =>
  ifb t25
  (s161_p2 K B1 t2 t5 t16 t17 t18 w)
  (fd 6 t7 (fun t26 w =>
  ld1 t26 (fun t27 w =>
  lnS t27 (fun t28 w =>
  s161_p17 K B1 t2 t5 t7 t16 t17 t18 t27 t28 (.int .i64 0) w) w) w) w)) w) w) w) w) w) w) w) w
def s161_p18_den (K : Value → World → Prop) (M1 : (Nat → Value) → World → Prop) : (Nat → Value) → World → Prop := denL Tryz.prog [(cd (Tryz.f161.body.getD .skip) [1, 1, 0, 1, 0, 0, 1, 1, 0, 0, 0]), (cd (Tryz.f161.body.getD .skip) [1, 1, 0, 1, 0, 0, 1, 1, 0, 0, 1, 0, 0]), (cd (Tryz.f161.body.getD .skip) [1, 1, 0, 1, 0, 0, 1, 1, 0, 0, 1, 0, 1]), (cd (Tryz.f161.body.getD .skip) [1, 1, 0, 1, 0, 0, 1, 1, 0, 0, 1, 1, 0])] (s161_p17_den K M1) (fun i => (bif Nat.beq i 1 then (s161_p2_den K M1) else (bif Nat.beq i 0 then (s161_p1_den K) else (fun _ _ => False)))) (s161_R K)
theorem s161_p18_ok (K : Value → World → Prop) (B1 : List Value → World → Prop) (s : Nat → Value) (w : World) (h : s161_p18 K B1 (s 2) (s 5) (s 16) (s 17) (s 18) w) : Tr (s161_p18_den K (fun s w => B1 [s 2, s 5, s 16, s 17, s 18] w) s w) :=
  tr_simple (P := Tryz.prog) (codes := [(cd (Tryz.f161.body.getD .skip) [1, 1, 0, 1, 0, 0, 1, 1, 0, 0, 0]), (cd (Tryz.f161.body.getD .skip) [1, 1, 0, 1, 0, 0, 1, 1, 0, 0, 1, 0, 0]), (cd (Tryz.f161.body.getD .skip) [1, 1, 0, 1, 0, 0, 1, 1, 0, 0, 1, 0, 1]), (cd (Tryz.f161.body.getD .skip) [1, 1, 0, 1, 0, 0, 1, 1, 0, 0, 1, 1, 0])]) (N := (fun s w => s161_p17 K B1 (s 2) (s 5) (s 7) (s 16) (s 17) (s 18) (s 27) (s 28) (s 29) w)) (N' := (s161_p17_den K (fun s w => B1 [s 2, s 5, s 16, s 17, s 18] w))) (X := (fun i => (bif Nat.beq i 1 then (fun s w => s161_p2 K B1 (s 2) (s 5) (s 16) (s 17) (s 18) w) else (bif Nat.beq i 0 then (fun s w => s161_p1 K w) else (fun _ _ => False))))) (X' := (fun i => (bif Nat.beq i 1 then (s161_p2_den K (fun s w => B1 [s 2, s 5, s 16, s 17, s 18] w)) else (bif Nat.beq i 0 then (s161_p1_den K) else (fun _ _ => False))))) (R := s161_R K) (s := s) (w := w) (p := s161_p18 K B1 (s 2) (s 5) (s 16) (s 17) (s 18) w) (q := s161_p18_den K (fun s w => B1 [s 2, s 5, s 16, s 17, s 18] w) s w) (fun s w h => s161_p17_ok K B1 s w @h) (fun i => (tr_bif (fun s w h => s161_p2_ok K B1 s w @h) (tr_bif (fun s w h => s161_p1_ok K s w @h) tr_id))) (by kernel_rfl) (by kernel_rfl) @h
def s161_p19 (K : Value → World → Prop) (B1 : List Value → World → Prop) (t2 t5 t16 t17 t18 : Value) (w : World) : Prop :=
  boI .lss t18 t17 (fun t19 w =>
  ifb t19
  (s161_p18 K B1 t2 t5 t16 t17 t18 w)
  (s161_p1 K w)) w
def s161_p19_den (K : Value → World → Prop) (M1 : (Nat → Value) → World → Prop) : (Nat → Value) → World → Prop := denL Tryz.prog [(cd (Tryz.f161.body.getD .skip) [1, 1, 0, 1, 0, 0, 0]), (cd (Tryz.f161.body.getD .skip) [1, 1, 0, 1, 0, 0, 1, 0])] (s161_p18_den K M1) (fun i => (bif Nat.beq i 0 then (s161_p1_den K) else (fun _ _ => False))) (s161_R K)
theorem s161_p19_ok (K : Value → World → Prop) (B1 : List Value → World → Prop) (s : Nat → Value) (w : World) (h : s161_p19 K B1 (s 2) (s 5) (s 16) (s 17) (s 18) w) : Tr (s161_p19_den K (fun s w => B1 [s 2, s 5, s 16, s 17, s 18] w) s w) :=
  tr_simple (P := Tryz.prog) (codes := [(cd (Tryz.f161.body.getD .skip) [1, 1, 0, 1, 0, 0, 0]), (cd (Tryz.f161.body.getD .skip) [1, 1, 0, 1, 0, 0, 1, 0])]) (N := (fun s w => s161_p18 K B1 (s 2) (s 5) (s 16) (s 17) (s 18) w)) (N' := (s161_p18_den K (fun s w => B1 [s 2, s 5, s 16, s 17, s 18] w))) (X := (fun i => (bif Nat.beq i 0 then (fun s w => s161_p1 K w) else (fun _ _ => False)))) (X' := (fun i => (bif Nat.beq i 0 then (s161_p1_den K) else (fun _ _ => False)))) (R := s161_R K) (s := s) (w := w) (p := s161_p19 K B1 (s 2) (s 5) (s 16) (s 17) (s 18) w) (q := s161_p19_den K (fun s w => B1 [s 2, s 5, s 16, s 17, s 18] w) s w) (fun s w h => s161_p18_ok K B1 s w @h) (fun i => (tr_bif (fun s w h => s161_p1_ok K s w @h) tr_id)) (by kernel_rfl) (by kernel_rfl) @h
def s161_p20_F (K : Value → World → Prop) (B1 : List Value → World → Prop) (l : List Value) (w : World) : Prop :=
  match l with
  | [t2, t5, t16, t17, t18] => s161_p19 K B1 t2 t5 t16 t17 t18 w
  | _ => False
theorem s161_p20_Fe {K : Value → World → Prop} {B1 : List Value → World → Prop} {t2 t5 t16 t17 t18 : Value} {w : World} : s161_p20_F K B1 [t2, t5, t16, t17, t18] w = s161_p19 K B1 t2 t5 t16 t17 t18 w := by kernel_rfl
def s161_p20 (K : Value → World → Prop) (t2 t5 t16 t17 t18 : Value) (w : World) : Prop :=
  LoopL (s161_p20_F K) [t2, t5, t16, t17, t18] w
def s161_p20_den (K : Value → World → Prop) : (Nat → Value) → World → Prop := fun s w => LoopP (fun M1 s w => s161_p19_den K M1 s w) s w
theorem s161_p20_ok (K : Value → World → Prop) (s : Nat → Value) (w : World) (h : s161_p20 K (s 2) (s 5) (s 16) (s 17) (s 18) w) : Tr (s161_p20_den K s w) :=
  tr_loop (G := fun N' s w => s161_p19_den K N' s w) (F := s161_p20_F K) (sel := fun s => [s 2, s 5, s 16, s 17, s 18]) (s := s) (w := w) (p := s161_p20 K (s 2) (s 5) (s 16) (s 17) (s 18) w) (q := s161_p20_den K s w) (fun B s w h => s161_p19_ok K B s w @h) (by kernel_rfl) (by kernel_rfl) @h
def s161_p21 (K : Value → World → Prop) (t0 t1 : Value) (w : World) : Prop :=
  nw 34 (t0).cells (fun t2 w =>
  ldn 14 t2 (fun t13 w =>
  cl Tryz.prog 173 #[t13, t1] (fun t15 w =>
  lnS t1 (fun t17 w =>
  s161_p20 K t2 t15 t1 t17 (.int .i64 0) w) w) w) w) w
def s161_p21_den (K : Value → World → Prop) : (Nat → Value) → World → Prop := denL Tryz.prog [(cd (Tryz.f161.body.getD .skip) [0]), (cd (Tryz.f161.body.getD .skip) [1, 0]), (cd (Tryz.f161.body.getD .skip) [1, 1, 0, 0])] (s161_p20_den K) (fun i => (fun _ _ => False)) (s161_R K)
theorem s161_p21_ok (K : Value → World → Prop) (s : Nat → Value) (w : World) (h : s161_p21 K (s 0) (s 1) w) : Tr (s161_p21_den K s w) :=
  tr_simple (P := Tryz.prog) (codes := [(cd (Tryz.f161.body.getD .skip) [0]), (cd (Tryz.f161.body.getD .skip) [1, 0]), (cd (Tryz.f161.body.getD .skip) [1, 1, 0, 0])]) (N := (fun s w => s161_p20 K (s 2) (s 5) (s 16) (s 17) (s 18) w)) (N' := (s161_p20_den K)) (X := (fun i => (fun _ _ => False))) (X' := (fun i => (fun _ _ => False))) (R := s161_R K) (s := s) (w := w) (p := s161_p21 K (s 0) (s 1) w) (q := s161_p21_den K s w) (fun s w h => s161_p20_ok K s w @h) (fun i => tr_id) (by kernel_rfl) (by kernel_rfl) @h
/-- the call, from the text -/
theorem c161 (t0 t1 : Value) {K : Value → World → Prop} {w : World} (h : s161_p21 K t0 t1 w) : cl Tryz.prog 161 #[t0, t1] K w :=
  calls_of_tr (c := (Tryz.f161.body.getD .skip)) (fn := Tryz.f161) (q := s161_p21_den K (st0 #[t0, t1]) w) Tryz.func161 (by kernel_rfl) (by kernel_rfl) (Nat.le_of_ble_eq_true (by kernel_rfl)) (by kernel_rfl) (by kernel_rfl) (s161_p21_ok K (st0 #[t0, t1]) w @h)

/-! ### function 194 : (*e2e.engine.digest).add -/
def s194_R (K : Value → World → Prop) (s : Nat → Value) (w : World) : Prop := retv Tryz.prog s Tryz.f194.results.toList (fun vs => K (pack vs) w) w
def s194_p1 (K : Value → World → Prop) (B1 : List Value → World → Prop) (t0 t1 t4 : Value) (w : World) : Prop :=
  boI .lss t4 (.int .i64 64) (fun t6 w =>
  ifb t6
  (nck t0 (fun t10 w =>
  ld1 t10 (fun t11 w =>
  cvi .u64 t1 (fun t13 w =>
  cvi .u64 t4 (fun t15 w =>
  boI .shr t13 t15 (fun t16 w =>
  cvi .u8 t16 (fun t17 w =>
  cvi .u32 t17 (fun t18 w =>
  boI .xor t11 t18 (fun t19 w =>
  nck t0 (fun t20 w =>
  st1 t20 t19 (fun w =>
  nck t0 (fun t22 w =>
  ld1 t22 (fun t23 w =>
  boI .mul t23 (.int .u32 16777619) (fun t24 w =>
  nck t0 (fun t25 w =>
  st1 t25 t24 (fun w =>
  boI .add t4 (.int .i64 8) (fun t8 w =>
  B1 [t0, t1, t8] w) w) w) w) w) w) w) w) w) w) w) w) w) w) w) w) w)
  (K (.tuple #[]) w)) w
def s194_p1_den (K : Value → World → Prop) (M1 : (Nat → Value) → World → Prop) : (Nat → Value) → World → Prop := denL Tryz.prog [(cd (Tryz.f194.body.getD .skip) [1, 0, 0, 0, 0]), (cd (Tryz.f194.body.getD .skip) [1, 0, 0, 0, 1]), (cd (Tryz.f194.body.getD .skip) [1, 0, 0, 1, 0]), (cd (Tryz.f194.body.getD .skip) [1, 0, 0, 1, 1])] M1 (fun i => (bif Nat.beq i 0 then (s194_R K) else (fun _ _ => False))) (s194_R K)
theorem s194_p1_ok (K : Value → World → Prop) (B1 : List Value → World → Prop) (s : Nat → Value) (w : World) (h : s194_p1 K B1 (s 0) (s 1) (s 4) w) : Tr (s194_p1_den K (fun s w => B1 [s 0, s 1, s 4] w) s w) :=
  tr_simple (P := Tryz.prog) (codes := [(cd (Tryz.f194.body.getD .skip) [1, 0, 0, 0, 0]), (cd (Tryz.f194.body.getD .skip) [1, 0, 0, 0, 1]), (cd (Tryz.f194.body.getD .skip) [1, 0, 0, 1, 0]), (cd (Tryz.f194.body.getD .skip) [1, 0, 0, 1, 1])]) (N := (fun s w => B1 [s 0, s 1, s 4] w)) (N' := (fun s w => B1 [s 0, s 1, s 4] w)) (X := (fun i => (bif Nat.beq i 0 then (s194_R K) else (fun _ _ => False)))) (X' := (fun i => (bif Nat.beq i 0 then (s194_R K) else (fun _ _ => False)))) (R := s194_R K) (s := s) (w := w) (p := s194_p1 K B1 (s 0) (s 1) (s 4) w) (q := s194_p1_den K (fun s w => B1 [s 0, s 1, s 4] w) s w) tr_id (fun i => (tr_bif tr_id tr_id)) (by kernel_rfl) (by kernel_rfl) @h
def s194_p2_F (K : Value → World → Prop) (B1 : List Value → World → Prop) (l : List Value) (w : World) : Prop :=
  match l with
  | [t0, t1, t4] => s194_p1 K B1 t0 t1 t4 w
  | _ => False
theorem s194_p2_Fe {K : Value → World → Prop} {B1 : List Value → World → Prop} {t0 t1 t4 : Value} {w : World} : s194_p2_F K B1 [t0, t1, t4] w = s194_p1 K B1 t0 t1 t4 w := by kernel_rfl
def s194_p2 (K : Value → World → Prop) (t0 t1 t4 : Value) (w : World) : Prop :=
  LoopL (s194_p2_F K) [t0, t1, t4] w
def s194_p2_den (K : Value → World → Prop) : (Nat → Value) → World → Prop := fun s w => LoopP (fun M1 s w => s194_p1_den K M1 s w) s w
theorem s194_p2_ok (K : Value → World → Prop) (s : Nat → Value) (w : World) (h : s194_p2 K (s 0) (s 1) (s 4) w) : Tr (s194_p2_den K s w) :=
  tr_loop (G := fun N' s w => s194_p1_den K N' s w) (F := s194_p2_F K) (sel := fun s => [s 0, s 1, s 4]) (s := s) (w := w) (p := s194_p2 K (s 0) (s 1) (s 4) w) (q := s194_p2_den K s w) (fun B s w h => s194_p1_ok K B s w @h) (by kernel_rfl) (by kernel_rfl) @h
def s194_p3 (K : Value → World → Prop) (t0 t1 : Value) (w : World) : Prop :=
  s194_p2 K t0 t1 (.int .i64 0) w
def s194_p3_den (K : Value → World → Prop) : (Nat → Value) → World → Prop := denL Tryz.prog [(cd (Tryz.f194.body.getD .skip) [0])] (s194_p2_den K) (fun i => (fun _ _ => False)) (s194_R K)
theorem s194_p3_ok (K : Value → World → Prop) (s : Nat → Value) (w : World) (h : s194_p3 K (s 0) (s 1) w) : Tr (s194_p3_den K s w) :=
  tr_simple (P := Tryz.prog) (codes := [(cd (Tryz.f194.body.getD .skip) [0])]) (N := (fun s w => s194_p2 K (s 0) (s 1) (s 4) w)) (N' := (s194_p2_den K)) (X := (fun i => (fun _ _ => False))) (X' := (fun i => (fun _ _ => False))) (R := s194_R K) (s := s) (w := w) (p := s194_p3 K (s 0) (s 1) w) (q := s194_p3_den K s w) (fun s w h => s194_p2_ok K s w @h) (fun i => tr_id) (by kernel_rfl) (by kernel_rfl) @h
/-- the call, from the text -/
theorem c194 (t0 t1 : Value) {K : Value → World → Prop} {w : World} (h : s194_p3 K t0 t1 w) : cl Tryz.prog 194 #[t0, t1] K w :=
  calls_of_tr (c := (Tryz.f194.body.getD .skip)) (fn := Tryz.f194) (q := s194_p3_den K (st0 #[t0, t1]) w) Tryz.func194 (by kernel_rfl) (by kernel_rfl) (Nat.le_of_ble_eq_true (by kernel_rfl)) (by kernel_rfl) (by kernel_rfl) (s194_p3_ok K (st0 #[t0, t1]) w @h)

/-! ### function 158 : e2e.engine.fingerprint -/
def s158_R (K : Value → World → Prop) (s : Nat → Value) (w : World) : Prop := retv Tryz.prog s Tryz.f158.results.toList (fun vs => K (pack vs) w) w
def s158_p1 (K : Value → World → Prop) (t3 : Value) (w : World) : Prop :=
  ld1 t3 (fun t86 w =>
  cvi .i64 t86 (fun t87 w =>
  K t87 w) w) w
def s158_p1_den (K : Value → World → Prop) : (Nat → Value) → World → Prop := denL Tryz.prog [(cd (Tryz.f158.body.getD .skip) [1, 1, 1, 1, 1, 1, 0]), (cd (Tryz.f158.body.getD .skip) [1, 1, 1, 1, 1, 1, 1])] (fun _ _ => False) (fun i => (fun _ _ => False)) (s158_R K)
theorem s158_p1_ok (K : Value → World → Prop) (s : Nat → Value) (w : World) (h : s158_p1 K (s 3) w) : Tr (s158_p1_den K s w) :=
  tr_simple (P := Tryz.prog) (codes := [(cd (Tryz.f158.body.getD .skip) [1, 1, 1, 1, 1, 1, 0]), (cd (Tryz.f158.body.getD .skip) [1, 1, 1, 1, 1, 1, 1])]) (N := (fun _ _ => False)) (N' := (fun _ _ => False)) (X := (fun i => (fun _ _ => False))) (X' := (fun i => (fun _ _ => False))) (R := s158_R K) (s := s) (w := w) (p := s158_p1 K (s 3) w) (q := s158_p1_den K s w) tr_id (fun i => tr_id) (by kernel_rfl) (by kernel_rfl) @h
def s158_p2 (K : Value → World → Prop) (B1 : List Value → World → Prop) (t3 t77 t78 t79 : Value) (w : World) : Prop :=
  boI .lss t79 t78 (fun t80 w =>
  ifb t80
  (ixs 1 t77 t79 (fun t81 w =>
  ld1 t81 (fun t82 w =>
  cl Tryz.prog 194 #[t3, t82] (fun t84 w =>
  boI .add t79 (.int .i64 1) (fun t85 w =>
  B1 [t3, t77, t78, t85] w) w) w) w) w)
  (s158_p1 K t3 w)) w
def s158_p2_den (K : Value → World → Prop) (M1 : (Nat → Value) → World → Prop) : (Nat → Value) → World → Prop := denL Tryz.prog [(cd (Tryz.f158.body.getD .skip) [1, 1, 1, 1, 1, 0, 1, 0, 0, 0]), (cd (Tryz.f158.body.getD .skip) [1, 1, 1, 1, 1, 0, 1, 0, 0, 1, 0]), (cd (Tryz.f158.body.getD .skip) [1, 1, 1, 1, 1, 0, 1, 0, 0, 1, 1, 0]), (cd (Tryz.f158.body.getD .skip) [1, 1, 1, 1, 1, 0, 1, 0, 0, 1, 1, 1])] M1 (fun i => (bif Nat.beq i 8 then (s158_p1_den K) else (fun _ _ => False))) (s158_R K)
theorem s158_p2_ok (K : Value → World → Prop) (B1 : List Value → World → Prop) (s : Nat → Value) (w : World) (h : s158_p2 K B1 (s 3) (s 77) (s 78) (s 79) w) : Tr (s158_p2_den K (fun s w => B1 [s 3, s 77, s 78, s 79] w) s w) :=
  tr_simple (P := Tryz.prog) (codes := [(cd (Tryz.f158.body.getD .skip) [1, 1, 1, 1, 1, 0, 1, 0, 0, 0]), (cd (Tryz.f158.body.getD .skip) [1, 1, 1, 1, 1, 0, 1, 0, 0, 1, 0]), (cd (Tryz.f158.body.getD .skip) [1, 1, 1, 1, 1, 0, 1, 0, 0, 1, 1, 0]), (cd (Tryz.f158.body.getD .skip) [1, 1, 1, 1, 1, 0, 1, 0, 0, 1, 1, 1])]) (N := (fun s w => B1 [s 3, s 77, s 78, s 79] w)) (N' := (fun s w => B1 [s 3, s 77, s 78, s 79] w)) (X := (fun i => (bif Nat.beq i 8 then (fun s w => s158_p1 K (s 3) w) else (fun _ _ => False)))) (X' := (fun i => (bif Nat.beq i 8 then (s158_p1_den K) else (fun _ _ => False)))) (R := s158_R K) (s := s) (w := w) (p := s158_p2 K B1 (s 3) (s 77) (s 78) (s 79) w) (q := s158_p2_den K (fun s w => B1 [s 3, s 77, s 78, s 79] w) s w) tr_id (fun i => (tr_bif (fun s w h => s158_p1_ok K s w @h) tr_id)) (by kernel_rfl) (by kernel_rfl) @h
def s158_p3_F (K : Value → World → Prop) (B1 : List Value → World → Prop) (l : List Value) (w : World) : Prop :=
  match l with
  | [t3, t77, t78, t79] => s158_p2 K B1 t3 t77 t78 t79 w
  | _ => False
theorem s158_p3_Fe {K : Value → World → Prop} {B1 : List Value → World → Prop} {t3 t77 t78 t79 : Value} {w : World} : s158_p3_F K B1 [t3, t77, t78, t79] w = s158_p2 K B1 t3 t77 t78 t79 w := by kernel_rfl
def s158_p3 (K : Value → World → Prop) (t3 t77 t78 t79 : Value) (w : World) : Prop :=
  LoopL (s158_p3_F K) [t3, t77, t78, t79] w
def s158_p3_den (K : Value → World → Prop) : (Nat → Value) → World → Prop := fun s w => LoopP (fun M1 s w => s158_p2_den K M1 s w) s w
theorem s158_p3_ok (K : Value → World → Prop) (s : Nat → Value) (w : World) (h : s158_p3 K (s 3) (s 77) (s 78) (s 79) w) : Tr (s158_p3_den K s w) :=
  tr_loop (G := fun N' s w => s158_p2_den K N' s w) (F := s158_p3_F K) (sel := fun s => [s 3, s 77, s 78, s 79]) (s := s) (w := w) (p := s158_p3 K (s 3) (s 77) (s 78) (s 79) w) (q := s158_p3_den K s w) (fun B s w h => s158_p2_ok K B s w @h) (by kernel_rfl) (by kernel_rfl) @h
def s158_p4 (K : Value → World → Prop) (t1 t3 : Value) (w : World) : Prop :=
  fd 2 t1 (fun t57 w =>
  ld1 t57 (fun t58 w =>
  fd 3 t1 (fun t59 w =>
  ld1 t59 (fun t60 w =>
  fd 4 t1 (fun t61 w =>
  ld1 t61 (fun t62 w =>
  fd 5 t1 (fun t63 w =>
  ld1 t63 (fun t64 w =>
  fd 6 t1 (fun t65 w =>
  ld1 t65 (fun t66 w =>
  fd 7 t1 (fun t67 w =>
  ld1 t67 (fun t68 w =>
  fd 8 t1 (fun t69 w =>
  ld1 t69 (fun t70 w =>
  fd 9 t1 (fun t71 w =>
  ld1 t71 (fun t72 w =>
  fd 10 t1 (fun t73 w =>
  ld1 t73 (fun t74 w =>
  fd 11 t1 (fun t75 w =>
  ld1 t75 (fun t76 w =>
  bsq 3 [(.int .i64 0)] 10 [(some (0, 1), t58), (some (1, 1), t60), (some (2, 1), t62), (some (3, 1), t64), (some (4, 1), t66), (some (5, 1), t68), (some (6, 1), t70), (some (7, 1), t72), (some (8, 1), t74), (some (9, 1), t76)] (fun t77 w =>
  lnS t77 (fun t78 w =>
  s158_p3 K t3 t77 t78 (.int .i64 0) w) w) w) w) w) w) w) w) w) w) w) w) w) w) w) w) w) w) w) w) w) w) w
def s158_p4_den (K : Value → World → Prop) : (Nat → Value) → World → Prop := denL Tryz.prog [(cd (Tryz.f158.body.getD .skip) [1, 1, 1, 1, 1, 0, 0])] (s158_p3_den K) (fun i => (fun _ _ => False)) (s158_R K)
theorem s158_p4_ok (K : Value → World → Prop) (s : Nat → Value) (w : World) (h : s158_p4 K (s 1) (s 3) w) : Tr (s158_p4_den K s w) :=
  tr_simple (P := Tryz.prog) (codes := [(cd (Tryz.f158.body.getD .skip) [1, 1, 1, 1, 1, 0, 0])]) (N := (fun s w => s158_p3 K (s 3) (s 77) (s 78) (s 79) w)) (N' := (s158_p3_den K)) (X := (fun i => (fun _ _ => False))) (X' := (fun i => (fun _ _ => False))) (R := s158_R K) (s := s) (w := w) (p := s158_p4 K (s 1) (s 3) w) (q := s158_p4_den K s w) (fun s w h => s158_p3_ok K s w @h) (fun i => tr_id) (by kernel_rfl) (by kernel_rfl) @h
def s158_p5 (K : Value → World → Prop) (B1 : List Value → World → Prop) (t1 t3 t41 t42 t43 : Value) (w : World) : Prop :=
  boI .add t43 (.int .i64 1) (fun t56 w =>
  B1 [t1, t3, t41, t42, t56] w) w
def s158_p5_den (K : Value → World → Prop) (M1 : (Nat → Value) → World → Prop) : (Nat → Value) → World → Prop := denL Tryz.prog [(cd (Tryz.f158.body.getD .skip) [1, 1, 1, 1, 0, 1, 0, 0, 1, 1, 1])] M1 (fun i => (bif Nat.beq i 4 then (s158_p4_den K) else (fun _ _ => False))) (s158_R K)
theorem s158_p5_ok (K : Value → World → Prop) (B1 : List Value → World → Prop) (s : Nat → Value) (w : World) (h : s158_p5 K B1 (s 1) (s 3) (s 41) (s 42) (s 43) w) : Tr (s158_p5_den K (fun s w => B1 [s 1, s 3, s 41, s 42, s 43] w) s w) :=
  tr_simple (P := Tryz.prog) (codes := [(cd (Tryz.f158.body.getD .skip) [1, 1, 1, 1, 0, 1, 0, 0, 1, 1, 1])]) (N := (fun s w => B1 [s 1, s 3, s 41, s 42, s 43] w)) (N' := (fun s w => B1 [s 1, s 3, s 41, s 42, s 43] w)) (X := (fun i => (bif Nat.beq i 4 then (fun s w => s158_p4 K (s 1) (s 3) w) else (fun _ _ => False)))) (X' := (fun i => (bif Nat.beq i 4 then (s158_p4_den K) else (fun _ _ => False)))) (R := s158_R K) (s := s) (w := w) (p := s158_p5 K B1 (s 1) (s 3) (s 41) (s 42) (s 43) w) (q := s158_p5_den K (fun s w => B1 [s 1, s 3, s 41, s 42, s 43] w) s w) tr_id (fun i => (tr_bif (fun s w h => s158_p4_ok K s w @h) tr_id)) (by kernel_rfl) (by kernel_rfl) @h
def s158_p6 (K : Value → World → Prop) (B1 : List Value → World → Prop) (B2 : List Value → World → Prop) (t1 t3 t41 t42 t43 t47 t48 t49 : Value) (w : World) : Prop :=
  boI .lss t49 t48 (fun t50 w =>
  ifb t50
  (ixs 1 t47 t49 (fun t51 w =>
  ld1 t51 (fun t52 w =>
  cl Tryz.prog 194 #[t3, t52] (fun t54 w =>
  boI .add t49 (.int .i64 1) (fun t55 w =>
  B2 [t1, t3, t41, t42, t43, t47, t48, t55] w) w) w) w) w)
  (s158_p5 K B1 t1 t3 t41 t42 t43 w)) w
def s158_p6_den (K : Value → World → Prop) (M1 : (Nat → Value) → World → Prop) (M2 : (Nat → Value) → World → Prop) : (Nat → Value) → World → Prop := denL Tryz.prog [(cd (Tryz.f158.body.getD .skip) [1, 1, 1, 1, 0, 1, 0, 0, 1, 1, 0, 0, 1, 1, 0, 0, 0]), (cd (Tryz.f158.body.getD .skip) [1, 1, 1, 1, 0, 1, 0, 0, 1, 1, 0, 0, 1, 1, 0, 0, 1, 0]), (cd (Tryz.f158.body.getD .skip) [1, 1, 1, 1, 0, 1, 0, 0, 1, 1, 0, 0, 1, 1, 0, 0, 1, 1, 0]), (cd (Tryz.f158.body.getD .skip) [1, 1, 1, 1, 0, 1, 0, 0, 1, 1, 0, 0, 1, 1, 0, 0, 1, 1, 1])] M2 (fun i => (bif Nat.beq i 6 then (s158_p5_den K M1) else (bif Nat.beq i 5 then (s158_p5_den K M1) else (bif Nat.beq i 4 then (s158_p4_den K) else (fun _ _ => False))))) (s158_R K)
theorem s158_p6_ok (K : Value → World → Prop) (B1 : List Value → World → Prop) (B2 : List Value → World → Prop) (s : Nat → Value) (w : World) (h : s158_p6 K B1 B2 (s 1) (s 3) (s 41) (s 42) (s 43) (s 47) (s 48) (s 49) w) : Tr (s158_p6_den K (fun s w => B1 [s 1, s 3, s 41, s 42, s 43] w) (fun s w => B2 [s 1, s 3, s 41, s 42, s 43, s 47, s 48, s 49] w) s w) :=
  tr_simple (P := Tryz.prog) (codes := [(cd (Tryz.f158.body.getD .skip) [1, 1, 1, 1, 0, 1, 0, 0, 1, 1, 0, 0, 1, 1, 0, 0, 0]), (cd (Tryz.f158.body.getD .skip) [1, 1, 1, 1, 0, 1, 0, 0, 1, 1, 0, 0, 1, 1, 0, 0, 1, 0]), (cd (Tryz.f158.body.getD .skip) [1, 1, 1, 1, 0, 1, 0, 0, 1, 1, 0, 0, 1, 1, 0, 0, 1, 1, 0]), (cd (Tryz.f158.body.getD .skip) [1, 1, 1, 1, 0, 1, 0, 0, 1, 1, 0, 0, 1, 1, 0, 0, 1, 1, 1])]) (N := (fun s w => B2 [s 1, s 3, s 41, s 42, s 43, s 47, s 48, s 49] w)) (N' := (fun s w => B2 [s 1, s 3, s 41, s 42, s 43, s 47, s 48, s 49] w)) (X := (fun i => (bif Nat.beq i 6 then (fun s w => s158_p5 K B1 (s 1) (s 3) (s 41) (s 42) (s 43) w) else (bif Nat.beq i 5 then (fun s w => s158_p5 K B1 (s 1) (s 3) (s 41) (s 42) (s 43) w) else (bif Nat.beq i 4 then (fun s w => s158_p4 K (s 1) (s 3) w) else (fun _ _ => False)))))) (X' := (fun i => (bif Nat.beq i 6 then (s158_p5_den K (fun s w => B1 [s 1, s 3, s 41, s 42, s 43] w)) else (bif Nat.beq i 5 then (s158_p5_den K (fun s w => B1 [s 1, s 3, s 41, s 42, s 43] w)) else (bif Nat.beq i 4 then (s158_p4_den K) else (fun _ _ => False)))))) (R := s158_R K) (s := s) (w := w) (p := s158_p6 K B1 B2 (s 1) (s 3) (s 41) (s 42) (s 43) (s 47) (s 48) (s 49) w) (q := s158_p6_den K (fun s w => B1 [s 1, s 3, s 41, s 42, s 43] w) (fun s w => B2 [s 1, s 3, s 41, s 42, s 43, s 47, s 48, s 49] w) s w) tr_id (fun i => (tr_bif (fun s w h => s158_p5_ok K B1 s w @h) (tr_bif (fun s w h => s158_p5_ok K B1 s w @h) (tr_bif (fun s w h => s158_p4_ok K s w @h) tr_id)))) (by kernel_rfl) (by kernel_rfl) @h
def s158_p7_F (K : Value → World → Prop) (B1 : List Value → World → Prop) (B2 : List Value → World → Prop) (l : List Value) (w : World) : Prop :=
  match l with
  | [t1, t3, t41, t42, t43, t47, t48, t49] => s158_p6 K B1 B2 t1 t3 t41 t42 t43 t47 t48 t49 w
  | _ => False
theorem s158_p7_Fe {K : Value → World → Prop} {B1 : List Value → World → Prop} {B2 : List Value → World → Prop} {t1 t3 t41 t42 t43 t47 t48 t49 : Value} {w : World} : s158_p7_F K B1 B2 [t1, t3, t41, t42, t43, t47, t48, t49] w = s158_p6 K B1 B2 t1 t3 t41 t42 t43 t47 t48 t49 w := by kernel_rfl
def s158_p7 (K : Value → World → Prop) (B1 : List Value → World → Prop) (t1 t3 t41 t42 t43 t47 t48 t49 : Value) (w : World) : Prop :=
  LoopL (s158_p7_F K B1) [t1, t3, t41, t42, t43, t47, t48, t49] w
def s158_p7_den (K : Value → World → Prop) (M1 : (Nat → Value) → World → Prop) : (Nat → Value) → World → Prop := fun s w => LoopP (fun M2 s w => s158_p6_den K M1 M2 s w) s w
theorem s158_p7_ok (K : Value → World → Prop) (B1 : List Value → World → Prop) (s : Nat → Value) (w : World) (h : s158_p7 K B1 (s 1) (s 3) (s 41) (s 42) (s 43) (s 47) (s 48) (s 49) w) : Tr (s158_p7_den K (fun s w => B1 [s 1, s 3, s 41, s 42, s 43] w) s w) :=
  tr_loop (G := fun N' s w => s158_p6_den K (fun s w => B1 [s 1, s 3, s 41, s 42, s 43] w) N' s w) (F := s158_p7_F K B1) (sel := fun s => [s 1, s 3, s 41, s 42, s 43, s 47, s 48, s 49]) (s := s) (w := w) (p := s158_p7 K B1 (s 1) (s 3) (s 41) (s 42) (s 43) (s 47) (s 48) (s 49) w) (q := s158_p7_den K (fun s w => B1 [s 1, s 3, s 41, s 42, s 43] w) s w) (fun B s w h => s158_p6_ok K B1 B s w @h) (by kernel_rfl) (by kernel_rfl) @h
def s158_p8 (K : Value → World → Prop) (B1 : List Value → World → Prop) (t1 t3 t41 t42 t43 : Value) (w : World) : Prop :=
  ixs 1 t41 t43 (fun t45 w =>
  ld1 t45 (fun t46 w =>
  lnS t46 (fun t48 w =>
  s158_p7 K B1 t1 t3 t41 t42 t43 t46 t48 (.int .i64 0) w) w) w) w
def s158_p8_den (K : Value → World → Prop) (M1 : (Nat → Value) → World → Prop) : (Nat → Value) → World → Prop := denL Tryz.prog [(cd (Tryz.f158.body.getD .skip) [1, 1, 1, 1, 0, 1, 0, 0, 1, 1, 0, 0, 0]), (cd (Tryz.f158.body.getD .skip) [1, 1, 1, 1, 0, 1, 0, 0, 1, 1, 0, 0, 1, 0])] (s158_p7_den K M1) (fun i => (bif Nat.beq i 5 then (s158_p5_den K M1) else (bif Nat.beq i 4 then (s158_p4_den K) else (fun _ _ => False)))) (s158_R K)
theorem s158_p8_ok (K : Value → World → Prop) (B1 : List Value → World → Prop) (s : Nat → Value) (w : World) (h : s158_p8 K B1 (s 1) (s 3) (s 41) (s 42) (s 43) w) : Tr (s158_p8_den K (fun s w => B1 [s 1, s 3, s 41, s 42, s 43] w) s w) :=
  tr_simple (P := Tryz.prog) (codes := [(cd (Tryz.f158.body.getD .skip) [1, 1, 1, 1, 0, 1, 0, 0, 1, 1, 0, 0, 0]), (cd (Tryz.f158.body.getD .skip) [1, 1, 1, 1, 0, 1, 0, 0, 1, 1, 0, 0, 1, 0])]) (N := (fun s w => s158_p7 K B1 (s 1) (s 3) (s 41) (s 42) (s 43) (s 47) (s 48) (s 49) w)) (N' := (s158_p7_den K (fun s w => B1 [s 1, s 3, s 41, s 42, s 43] w))) (X := (fun i => (bif Nat.beq i 5 then (fun s w => s158_p5 K B1 (s 1) (s 3) (s 41) (s 42) (s 43) w) else (bif Nat.beq i 4 then (fun s w => s158_p4 K (s 1) (s 3) w) else (fun _ _ => False))))) (X' := (fun i => (bif Nat.beq i 5 then (s158_p5_den K (fun s w => B1 [s 1, s 3, s 41, s 42, s 43] w)) else (bif Nat.beq i 4 then (s158_p4_den K) else (fun _ _ => False))))) (R := s158_R K) (s := s) (w := w) (p := s158_p8 K B1 (s 1) (s 3) (s 41) (s 42) (s 43) w) (q := s158_p8_den K (fun s w => B1 [s 1, s 3, s 41, s 42, s 43] w) s w) (fun s w h => s158_p7_ok K B1 s w @h) (fun i => (tr_bif (fun s w h => s158_p5_ok K B1 s w @h) (tr_bif (fun s w h => s158_p4_ok K s w @h) tr_id))) (by kernel_rfl) (by kernel_rfl) @h
def s158_p9 (K : Value → World → Prop) (B1 : List Value → World → Prop) (t1 t3 t41 t42 t43 : Value) (w : World) : Prop :=
  boI .lss t43 t42 (fun t44 w =>
  ifb t44
  (s158_p8 K B1 t1 t3 t41 t42 t43 w)
  (s158_p4 K t1 t3 w)) w
def s158_p9_den (K : Value → World → Prop) (M1 : (Nat → Value) → World → Prop) : (Nat → Value) → World → Prop := denL Tryz.prog [(cd (Tryz.f158.body.getD .skip) [1, 1, 1, 1, 0, 1, 0, 0, 0]), (cd (Tryz.f158.body.getD .skip) [1, 1, 1, 1, 0, 1, 0, 0, 1, 0])] (s158_p8_den K M1) (fun i => (bif Nat.beq i 4 then (s158_p4_den K) else (fun _ _ => False))) (s158_R K)
theorem s158_p9_ok (K : Value → World → Prop) (B1 : List Value → World → Prop) (s : Nat → Value) (w : World) (h : s158_p9 K B1 (s 1) (s 3) (s 41) (s 42) (s 43) w) : Tr (s158_p9_den K (fun s w => B1 [s 1, s 3, s 41, s 42, s 43] w) s w) :=
  tr_simple (P := Tryz.prog) (codes := [(cd (Tryz.f158.body.getD .skip) [1, 1, 1, 1, 0, 1, 0, 0, 0]), (cd (Tryz.f158.body.getD .skip) [1, 1, 1, 1, 0, 1, 0, 0, 1, 0])]) (N := (fun s w => s158_p8 K B1 (s 1) (s 3) (s 41) (s 42) (s 43) w)) (N' := (s158_p8_den K (fun s w => B1 [s 1, s 3, s 41, s 42, s 43] w))) (X := (fun i => (bif Nat.beq i 4 then (fun s w => s158_p4 K (s 1) (s 3) w) else (fun _ _ => False)))) (X' := (fun i => (bif Nat.beq i 4 then (s158_p4_den K) else (fun _ _ => False)))) (R := s158_R K) (s := s) (w := w) (p := s158_p9 K B1 (s 1) (s 3) (s 41) (s 42) (s 43) w) (q := s158_p9_den K (fun s w => B1 [s 1, s 3, s 41, s 42, s 43] w) s w) (fun s w h => s158_p8_ok K B1 s w @h) (fun i => (tr_bif (fun s w h => s158_p4_ok K s w @h) tr_id)) (by kernel_rfl) (by kernel_rfl) @h
def s158_p10_F (K : Value → World → Prop) (B1 : List Value → World → Prop) (l : List Value) (w : World) : Prop :=
  match l with
  | [t1, t3, t41, t42, t43] => s158_p9 K B1 t1 t3 t41 t42 t43 w
  | _ => False
theorem s158_p10_Fe {K : Value → World → Prop} {B1 : List Value → World → Prop} {t1 t3 t41 t42 t43 : Value} {w : World} : s158_p10_F K B1 [t1, t3, t41, t42, t43] w = s158_p9 K B1 t1 t3 t41 t42 t43 w := by kernel_rfl
def s158_p10 (K : Value → World → Prop) (t1 t3 t41 t42 t43 : Value) (w : World) : Prop :=
  LoopL (s158_p10_F K) [t1, t3, t41, t42, t43] w
def s158_p10_den (K : Value → World → Prop) : (Nat → Value) → World → Prop := fun s w => LoopP (fun M1 s w => s158_p9_den K M1 s w) s w
theorem s158_p10_ok (K : Value → World → Prop) (s : Nat → Value) (w : World) (h : s158_p10 K (s 1) (s 3) (s 41) (s 42) (s 43) w) : Tr (s158_p10_den K s w) :=
  tr_loop (G := fun N' s w => s158_p9_den K N' s w) (F := s158_p10_F K) (sel := fun s => [s 1, s 3, s 41, s 42, s 43]) (s := s) (w := w) (p := s158_p10 K (s 1) (s 3) (s 41) (s 42) (s 43) w) (q := s158_p10_den K s w) (fun B s w h => s158_p9_ok K B s w @h) (by kernel_rfl) (by kernel_rfl) @h
def s158_p11 (K : Value → World → Prop) (t1 t3 : Value) (w : World) : Prop :=
  fd 1 t1 (fun t40 w =>
  ld1 t40 (fun t41 w =>
  lnS t41 (fun t42 w =>
  s158_p10 K t1 t3 t41 t42 (.int .i64 0) w) w) w) w
def s158_p11_den (K : Value → World → Prop) : (Nat → Value) → World → Prop := denL Tryz.prog [(cd (Tryz.f158.body.getD .skip) [1, 1, 1, 1, 0, 0])] (s158_p10_den K) (fun i => (fun _ _ => False)) (s158_R K)
theorem s158_p11_ok (K : Value → World → Prop) (s : Nat → Value) (w : World) (h : s158_p11 K (s 1) (s 3) w) : Tr (s158_p11_den K s w) :=
  tr_simple (P := Tryz.prog) (codes := [(cd (Tryz.f158.body.getD .skip) [1, 1, 1, 1, 0, 0])]) (N := (fun s w => s158_p10 K (s 1) (s 3) (s 41) (s 42) (s 43) w)) (N' := (s158_p10_den K)) (X := (fun i => (fun _ _ => False))) (X' := (fun i => (fun _ _ => False))) (R := s158_R K) (s := s) (w := w) (p := s158_p11 K (s 1) (s 3) w) (q := s158_p11_den K s w) (fun s w h => s158_p10_ok K s w @h) (fun i => tr_id) (by kernel_rfl) (by kernel_rfl) @h
def s158_p12 (K : Value → World → Prop) (B1 : List Value → World → Prop) (t1 t3 t19 t20 t21 : Value) (w : World) : Prop :=
  boI .add t21 (.int .i64 1) (fun t39 w =>
  B1 [t1, t3, t19, t20, t39] w) w
def s158_p12_den (K : Value → World → Prop) (M1 : (Nat → Value) → World → Prop) : (Nat → Value) → World → Prop := denL Tryz.prog [(cd (Tryz.f158.body.getD .skip) [1, 1, 1, 0, 1, 0, 0, 1, 1, 1])] M1 (fun i => (bif Nat.beq i 0 then (s158_p11_den K) else (fun _ _ => False))) (s158_R K)
theorem s158_p12_ok (K : Value → World → Prop) (B1 : List Value → World → Prop) (s : Nat → Value) (w : World) (h : s158_p12 K B1 (s 1) (s 3) (s 19) (s 20) (s 21) w) : Tr (s158_p12_den K (fun s w => B1 [s 1, s 3, s 19, s 20, s 21] w) s w) :=
  tr_simple (P := Tryz.prog) (codes := [(cd (Tryz.f158.body.getD .skip) [1, 1, 1, 0, 1, 0, 0, 1, 1, 1])]) (N := (fun s w => B1 [s 1, s 3, s 19, s 20, s 21] w)) (N' := (fun s w => B1 [s 1, s 3, s 19, s 20, s 21] w)) (X := (fun i => (bif Nat.beq i 0 then (fun s w => s158_p11 K (s 1) (s 3) w) else (fun _ _ => False)))) (X' := (fun i => (bif Nat.beq i 0 then (s158_p11_den K) else (fun _ _ => False)))) (R := s158_R K) (s := s) (w := w) (p := s158_p12 K B1 (s 1) (s 3) (s 19) (s 20) (s 21) w) (q := s158_p12_den K (fun s w => B1 [s 1, s 3, s 19, s 20, s 21] w) s w) tr_id (fun i => (tr_bif (fun s w h => s158_p11_ok K s w @h) tr_id)) (by kernel_rfl) (by kernel_rfl) @h
def s158_p13 (K : Value → World → Prop) (B1 : List Value → World → Prop) (B2 : List Value → World → Prop) (t1 t3 t19 t20 t21 t32 t33 : Value) (w : World) : Prop :=
  boI .lss t33 (.int .i64 3) (fun t34 w =>
  ifb t34
  (iv Tryz.prog 91 t32 t33 (fun t35 w =>
  cl Tryz.prog 194 #[t3, t35] (fun t37 w =>
  boI .add t33 (.int .i64 1) (fun t38 w =>
  B2 [t1, t3, t19, t20, t21, t32, t38] w) w) w) w)
  (s158_p12 K B1 t1 t3 t19 t20 t21 w)) w
def s158_p13_den (K : Value → World → Prop) (M1 : (Nat → Value) → World → Prop) (M2 : (Nat → Value) → World → Prop) : (Nat → Value) → World → Prop := denL Tryz.prog [(cd (Tryz.f158.body.getD .skip) [1, 1, 1, 0, 1, 0, 0, 1, 1, 0, 0, 1, 1, 1, 1, 0, 0, 0]), (cd (Tryz.f158.body.getD .skip) [1, 1, 1, 0, 1, 0, 0, 1, 1, 0, 0, 1, 1, 1, 1, 0, 0, 1, 0]), (cd (Tryz.f158.body.getD .skip) [1, 1, 1, 0, 1, 0, 0, 1, 1, 0, 0, 1, 1, 1, 1, 0, 0, 1, 1, 0]), (cd (Tryz.f158.body.getD .skip) [1, 1, 1, 0, 1, 0, 0, 1, 1, 0, 0, 1, 1, 1, 1, 0, 0, 1, 1, 1])] M2 (fun i => (bif Nat.beq i 2 then (s158_p12_den K M1) else (bif Nat.beq i 1 then (s158_p12_den K M1) else (bif Nat.beq i 0 then (s158_p11_den K) else (fun _ _ => False))))) (s158_R K)
theorem s158_p13_ok (K : Value → World → Prop) (B1 : List Value → World → Prop) (B2 : List Value → World → Prop) (s : Nat → Value) (w : World) (h : s158_p13 K B1 B2 (s 1) (s 3) (s 19) (s 20) (s 21) (s 32) (s 33) w) : Tr (s158_p13_den K (fun s w => B1 [s 1, s 3, s 19, s 20, s 21] w) (fun s w => B2 [s 1, s 3, s 19, s 20, s 21, s 32, s 33] w) s w) :=
  tr_simple (P := Tryz.prog) (codes := [(cd (Tryz.f158.body.getD .skip) [1, 1, 1, 0, 1, 0, 0, 1, 1, 0, 0, 1, 1, 1, 1, 0, 0, 0]), (cd (Tryz.f158.body.getD .skip) [1, 1, 1, 0, 1, 0, 0, 1, 1, 0, 0, 1, 1, 1, 1, 0, 0, 1, 0]), (cd (Tryz.f158.body.getD .skip) [1, 1, 1, 0, 1, 0, 0, 1, 1, 0, 0, 1, 1, 1, 1, 0, 0, 1, 1, 0]), (cd (Tryz.f158.body.getD .skip) [1, 1, 1, 0, 1, 0, 0, 1, 1, 0, 0, 1, 1, 1, 1, 0, 0, 1, 1, 1])]) (N := (fun s w => B2 [s 1, s 3, s 19, s 20, s 21, s 32, s 33] w)) (N' := (fun s w => B2 [s 1, s 3, s 19, s 20, s 21, s 32, s 33] w)) (X := (fun i => (bif Nat.beq i 2 then (fun s w => s158_p12 K B1 (s 1) (s 3) (s 19) (s 20) (s 21) w) else (bif Nat.beq i 1 then (fun s w => s158_p12 K B1 (s 1) (s 3) (s 19) (s 20) (s 21) w) else (bif Nat.beq i 0 then (fun s w => s158_p11 K (s 1) (s 3) w) else (fun _ _ => False)))))) (X' := (fun i => (bif Nat.beq i 2 then (s158_p12_den K (fun s w => B1 [s 1, s 3, s 19, s 20, s 21] w)) else (bif Nat.beq i 1 then (s158_p12_den K (fun s w => B1 [s 1, s 3, s 19, s 20, s 21] w)) else (bif Nat.beq i 0 then (s158_p11_den K) else (fun _ _ => False)))))) (R := s158_R K) (s := s) (w := w) (p := s158_p13 K B1 B2 (s 1) (s 3) (s 19) (s 20) (s 21) (s 32) (s 33) w) (q := s158_p13_den K (fun s w => B1 [s 1, s 3, s 19, s 20, s 21] w) (fun s w => B2 [s 1, s 3, s 19, s 20, s 21, s 32, s 33] w) s w) tr_id (fun i => (tr_bif (fun s w h => s158_p12_ok K B1 s w @h) (tr_bif (fun s w h => s158_p12_ok K B1 s w @h) (tr_bif (fun s w h => s158_p11_ok K s w @h) tr_id)))) (by kernel_rfl) (by kernel_rfl) @h
def s158_p14_F (K : Value → World → Prop) (B1 : List Value → World → Prop) (B2 : List Value → World → Prop) (l : List Value) (w : World) : Prop :=
  match l with
  | [t1, t3, t19, t20, t21, t32, t33] => s158_p13 K B1 B2 t1 t3 t19 t20 t21 t32 t33 w
  | _ => False
theorem s158_p14_Fe {K : Value → World → Prop} {B1 : List Value → World → Prop} {B2 : List Value → World → Prop} {t1 t3 t19 t20 t21 t32 t33 : Value} {w : World} : s158_p14_F K B1 B2 [t1, t3, t19, t20, t21, t32, t33] w = s158_p13 K B1 B2 t1 t3 t19 t20 t21 t32 t33 w := by kernel_rfl
def s158_p14 (K : Value → World → Prop) (B1 : List Value → World → Prop) (t1 t3 t19 t20 t21 t32 t33 : Value) (w : World) : Prop :=
  LoopL (s158_p14_F K B1) [t1, t3, t19, t20, t21, t32, t33] w
def s158_p14_den (K : Value → World → Prop) (M1 : (Nat → Value) → World → Prop) : (Nat → Value) → World → Prop := fun s w => LoopP (fun M2 s w => s158_p13_den K M1 M2 s w) s w
theorem s158_p14_ok (K : Value → World → Prop) (B1 : List Value → World → Prop) (s : Nat → Value) (w : World) (h : s158_p14 K B1 (s 1) (s 3) (s 19) (s 20) (s 21) (s 32) (s 33) w) : Tr (s158_p14_den K (fun s w => B1 [s 1, s 3, s 19, s 20, s 21] w) s w) :=
  tr_loop (G := fun N' s w => s158_p13_den K (fun s w => B1 [s 1, s 3, s 19, s 20, s 21] w) N' s w) (F := s158_p14_F K B1) (sel := fun s => [s 1, s 3, s 19, s 20, s 21, s 32, s 33]) (s := s) (w := w) (p := s158_p14 K B1 (s 1) (s 3) (s 19) (s 20) (s 21) (s 32) (s 33) w) (q := s158_p14_den K (fun s w => B1 [s 1, s 3, s 19, s 20, s 21] w) s w) (fun B s w h => s158_p13_ok K B1 B s w @h) (by kernel_rfl) (by kernel_rfl) @h
def s158_p15 (K : Value → World → Prop) (B1 : List Value → World → Prop) (t1 t3 t19 t20 t21 : Value) (w : World) : Prop :=
  ixs 5 t19 t21 (fun t23 w =>
  ldn 5 t23 (fun t24 w =>
  nw 113 #[(.int .i64 0), (.int .i64 0), (.int .i64 0), (.int .i64 0), (.int .i64 0)] (fun t5 w =>
  stn 5 t5 t24 (fun w =>
  fd 0 t5 (fun t25 w =>
  ld1 t25 (fun t26 w =>
  cl Tryz.prog 194 #[t3, t26] (fun t27 w =>
  fd 1 t5 (fun t28 w =>
  ld1 t28 (fun t29 w =>
  cl Tryz.prog 194 #[t3, t29] (fun t30 w =>
  fd 2 t5 (fun t31 w =>
  ldn 3 t31 (fun t32 w =>
  s158_p14 K B1 t1 t3 t19 t20 t21 t32 (.int .i64 0) w) w) w) w) w) w) w) w) w) w) w) w) w
def s158_p15_den (K : Value → World → Prop) (M1 : (Nat → Value) → World → Prop) : (Nat → Value) → World → Prop := denL Tryz.prog [(cd (Tryz.f158.body.getD .skip) [1, 1, 1, 0, 1, 0, 0, 1, 1, 0, 0, 0]), (cd (Tryz.f158.body.getD .skip) [1, 1, 1, 0, 1, 0, 0, 1, 1, 0, 0, 1, 0]), (cd (Tryz.f158.body.getD .skip) [1, 1, 1, 0, 1, 0, 0, 1, 1, 0, 0, 1, 1, 0]), (cd (Tryz.f158.body.getD .skip) [1, 1, 1, 0, 1, 0, 0, 1, 1, 0, 0, 1, 1, 1, 0])] (s158_p14_den K M1) (fun i => (bif Nat.beq i 1 then (s158_p12_den K M1) else (bif Nat.beq i 0 then (s158_p11_den K) else (fun _ _ => False)))) (s158_R K)
theorem s158_p15_ok (K : Value → World → Prop) (B1 : List Value → World → Prop) (s : Nat → Value) (w : World) (h : s158_p15 K B1 (s 1) (s 3) (s 19) (s 20) (s 21) w) : Tr (s158_p15_den K (fun s w => B1 [s 1, s 3, s 19, s 20, s 21] w) s w) :=
  tr_simple (P := Tryz.prog) (codes := [(cd (Tryz.f158.body.getD .skip) [1, 1, 1, 0, 1, 0, 0, 1, 1, 0, 0, 0]), (cd (Tryz.f158.body.getD .skip) [1, 1, 1, 0, 1, 0, 0, 1, 1, 0, 0, 1, 0]), (cd (Tryz.f158.body.getD .skip) [1, 1, 1, 0, 1, 0, 0, 1, 1, 0, 0, 1, 1, 0]), (cd (Tryz.f158.body.getD .skip) [1, 1, 1, 0, 1, 0, 0, 1, 1, 0, 0, 1, 1, 1, 0])]) (N := (fun s w => s158_p14 K B1 (s 1) (s 3) (s 19) (s 20) (s 21) (s 32) (s 33) w)) (N' := (s158_p14_den K (fun s w => B1 [s 1, s 3, s 19, s 20, s 21] w))) (X := (fun i => (bif Nat.beq i 1 then (fun s w => s158_p12 K B1 (s 1) (s 3) (s 19) (s 20) (s 21) w) else (bif Nat.beq i 0 then (fun s w => s158_p11 K (s 1) (s 3) w) else (fun _ _ => False))))) (X' := (fun i => (bif Nat.beq i 1 then (s158_p12_den K (fun s w => B1 [s 1, s 3, s 19, s 20, s 21] w)) else (bif Nat.beq i 0 then (s158_p11_den K) else (fun _ _ => False))))) (R := s158_R K) (s := s) (w := w) (p := s158_p15 K B1 (s 1) (s 3) (s 19) (s 20) (s 21) w) (q := s158_p15_den K (fun s w => B1 [s 1, s 3, s 19, s 20, s 21] w) s w) (fun s w h => s158_p14_ok K B1 s w @h) (fun i => (tr_bif (fun s w h => s158_p12_ok K B1 s w @h) (tr_bif (fun s w h => s158_p11_ok K s w @h) tr_id))) (by kernel_rfl) (by kernel_rfl) @h
def s158_p16 (K : Value → World → Prop) (B1 : List Value → World → Prop) (t1 t3 t19 t20 t21 : Value) (w : World) : Prop :=
  boI .lss t21 t20 (fun t22 w =>
  ifb t22
  (s158_p15 K B1 t1 t3 t19 t20 t21 w)
  (s158_p11 K t1 t3 w)) w
def s158_p16_den (K : Value → World → Prop) (M1 : (Nat → Value) → World → Prop) : (Nat → Value) → World → Prop := denL Tryz.prog [(cd (Tryz.f158.body.getD .skip) [1, 1, 1, 0, 1, 0, 0, 0]), (cd (Tryz.f158.body.getD .skip) [1, 1, 1, 0, 1, 0, 0, 1, 0])] (s158_p15_den K M1) (fun i => (bif Nat.beq i 0 then (s158_p11_den K) else (fun _ _ => False))) (s158_R K)
theorem s158_p16_ok (K : Value → World → Prop) (B1 : List Value → World → Prop) (s : Nat → Value) (w : World) (h : s158_p16 K B1 (s 1) (s 3) (s 19) (s 20) (s 21) w) : Tr (s158_p16_den K (fun s w => B1 [s 1, s 3, s 19, s 20, s 21] w) s w) :=
  tr_simple (P := Tryz.prog) (codes := [(cd (Tryz.f158.body.getD .skip) [1, 1, 1, 0, 1, 0, 0, 0]), (cd (Tryz.f158.body.getD .skip) [1, 1, 1, 0, 1, 0, 0, 1, 0])]) (N := (fun s w => s158_p15 K B1 (s 1) (s 3) (s 19) (s 20) (s 21) w)) (N' := (s158_p15_den K (fun s w => B1 [s 1, s 3, s 19, s 20, s 21] w))) (X := (fun i => (bif Nat.beq i 0 then (fun s w => s158_p11 K (s 1) (s 3) w) else (fun _ _ => False)))) (X' := (fun i => (bif Nat.beq i 0 then (s158_p11_den K) else (fun _ _ => False)))) (R := s158_R K) (s := s) (w := w) (p := s158_p16 K B1 (s 1) (s 3) (s 19) (s 20) (s 21) w) (q := s158_p16_den K (fun s w => B1 [s 1, s 3, s 19, s 20, s 21] w) s w) (fun s w h => s158_p15_ok K B1 s w @h) (fun i => (tr_bif (fun s w h => s158_p11_ok K s w @h) tr_id)) (by kernel_rfl) (by kernel_rfl) @h
def s158_p17_F (K : Value → World → Prop) (B1 : List Value → World → Prop) (l : List Value) (w : World) : Prop :=
  match l with
  | [t1, t3, t19, t20, t21] => s158_p16 K B1 t1 t3 t19 t20 t21 w
  | _ => False
theorem s158_p17_Fe {K : Value → World → Prop} {B1 : List Value → World → Prop} {t1 t3 t19 t20 t21 : Value} {w : World} : s158_p17_F K B1 [t1, t3, t19, t20, t21] w = s158_p16 K B1 t1 t3 t19 t20 t21 w := by kernel_rfl
def s158_p17 (K : Value → World → Prop) (t1 t3 t19 t20 t21 : Value) (w : World) : Prop :=
  LoopL (s158_p17_F K) [t1, t3, t19, t20, t21] w
def s158_p17_den (K : Value → World → Prop) : (Nat → Value) → World → Prop := fun s w => LoopP (fun M1 s w => s158_p16_den K M1 s w) s w
theorem s158_p17_ok (K : Value → World → Prop) (s : Nat → Value) (w : World) (h : s158_p17 K (s 1) (s 3) (s 19) (s 20) (s 21) w) : Tr (s158_p17_den K s w) :=
  tr_loop (G := fun N' s w => s158_p16_den K N' s w) (F := s158_p17_F K) (sel := fun s => [s 1, s 3, s 19, s 20, s 21]) (s := s) (w := w) (p := s158_p17 K (s 1) (s 3) (s 19) (s 20) (s 21) w) (q := s158_p17_den K s w) (fun B s w h => s158_p16_ok K B s w @h) (by kernel_rfl) (by kernel_rfl) @h
def s158_p18 (K : Value → World → Prop) (t0 : Value) (w : World) : Prop :=
  nw 34 (t0).cells (fun t1 w =>
  nw 226 #[(.int .u32 0)] (fun t3 w =>
  st1 t3 (.int .u32 2166136261) (fun w =>
  fd 0 t1 (fun t14 w =>
  ld1 t14 (fun t15 w =>
  lnS t15 (fun t16 w =>
  cl Tryz.prog 194 #[t3, t16] (fun t17 w =>
  fd 0 t1 (fun t18 w =>
  ld1 t18 (fun t19 w =>
  lnS t19 (fun t20 w =>
  s158_p17 K t1 t3 t19 t20 (.int .i64 0) w) w) w) w) w) w) w) w) w) w) w
def s158_p18_den (K : Value → World → Prop) : (Nat → Value) → World → Prop := denL Tryz.prog [(cd (Tryz.f158.body.getD .skip) [0]), (cd (Tryz.f158.body.getD .skip) [1, 0]), (cd (Tryz.f158.body.getD .skip) [1, 1, 0]), (cd (Tryz.f158.body.getD .skip) [1, 1, 1, 0, 0])] (s158_p17_den K) (fun i => (fun _ _ => False)) (s158_R K)
theorem s158_p18_ok (K : Value → World → Prop) (s : Nat → Value) (w : World) (h : s158_p18 K (s 0) w) : Tr (s158_p18_den K s w) :=
  tr_simple (P := Tryz.prog) (codes := [(cd (Tryz.f158.body.getD .skip) [0]), (cd (Tryz.f158.body.getD .skip) [1, 0]), (cd (Tryz.f158.body.getD .skip) [1, 1, 0]), (cd (Tryz.f158.body.getD .skip) [1, 1, 1, 0, 0])]) (N := (fun s w => s158_p17 K (s 1) (s 3) (s 19) (s 20) (s 21) w)) (N' := (s158_p17_den K)) (X := (fun i => (fun _ _ => False))) (X' := (fun i => (fun _ _ => False))) (R := s158_R K) (s := s) (w := w) (p := s158_p18 K (s 0) w) (q := s158_p18_den K s w) (fun s w h => s158_p17_ok K s w @h) (fun i => tr_id) (by kernel_rfl) (by kernel_rfl) @h
/-- the call, from the text -/
theorem c158 (t0 : Value) {K : Value → World → Prop} {w : World} (h : s158_p18 K t0 w) : cl Tryz.prog 158 #[t0] K w :=
  calls_of_tr (c := (Tryz.f158.body.getD .skip)) (fn := Tryz.f158) (q := s158_p18_den K (st0 #[t0]) w) Tryz.func158 (by kernel_rfl) (by kernel_rfl) (Nat.le_of_ble_eq_true (by kernel_rfl)) (by kernel_rfl) (by kernel_rfl) (s158_p18_ok K (st0 #[t0]) w @h)

end Go.Proofs.Qxb6500896aGreat
