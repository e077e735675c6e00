import Derived.Test.Qxb6500896aGreatDoorProg
import Derived.Test.Qxb6500896aGreatDoorShMix3
namespace Go.Proofs.Qxb6500896aGreatDoor
open Go.Sh Go.RowKit
set_option linter.unusedVariables false
set_option maxRecDepth 100000

/-! ### function 72 : (*e2e.engine.Engine).image -/
def s72_R (K : Value → World → Prop) (s : Nat → Value) (w : World) : Prop := retv Tryz.prog s Tryz.f72.results.toList (fun vs => K (pack vs) w) w
def s72_p1 (K : Value → World → Prop) (t2 t3 : Value) (w : World) : Prop :=
  ldn 5 t3 (fun t78 w =>
  stn 5 t2 t78 (fun w =>
  ldn 5 t2 (fun r0 _ =>
  K r0 w) w) w) w
def s72_p1_den (K : Value → World → Prop) : (Nat → Value) → World → Prop := denL Tryz.prog [(cd (Tryz.f72.body.getD .skip) [1, 1, 1, 1, 1, 1, 0]), (cd (Tryz.f72.body.getD .skip) [1, 1, 1, 1, 1, 1, 1])] (fun _ _ => False) (fun i => (fun _ _ => False)) (s72_R K)
theorem s72_p1_ok (K : Value → World → Prop) (s : Nat → Value) (w : World) (h : s72_p1 K (s 2) (s 3) w) : Tr (s72_p1_den K s w) :=
  tr_simple (P := Tryz.prog) (codes := [(cd (Tryz.f72.body.getD .skip) [1, 1, 1, 1, 1, 1, 0]), (cd (Tryz.f72.body.getD .skip) [1, 1, 1, 1, 1, 1, 1])]) (N := (fun _ _ => False)) (N' := (fun _ _ => False)) (X := (fun i => (fun _ _ => False))) (X' := (fun i => (fun _ _ => False))) (R := s72_R K) (s := s) (w := w) (p := s72_p1 K (s 2) (s 3) w) (q := s72_p1_den K s w) tr_id (fun i => tr_id) (by kernel_rfl) (by kernel_rfl) @h
def s72_p2 (K : Value → World → Prop) (B1 : List Value → World → Prop) (t0 t2 t3 t63 t64 : Value) (w : World) : Prop :=
  boI .add t64 (.int .i64 1) (fun t77 w =>
  B1 [t0, t2, t3, t63, t77] w) w
def s72_p2_den (K : Value → World → Prop) (M1 : (Nat → Value) → World → Prop) : (Nat → Value) → World → Prop := denL Tryz.prog [(cd (Tryz.f72.body.getD .skip) [1, 1, 1, 1, 1, 0, 1, 0, 0, 1, 1, 1])] M1 (fun i => (bif Nat.beq i 2 then (s72_p1_den K) else (fun _ _ => False))) (s72_R K)
theorem s72_p2_ok (K : Value → World → Prop) (B1 : List Value → World → Prop) (s : Nat → Value) (w : World) (h : s72_p2 K B1 (s 0) (s 2) (s 3) (s 63) (s 64) w) : Tr (s72_p2_den K (fun s w => B1 [s 0, s 2, s 3, s 63, s 64] w) s w) :=
  tr_simple (P := Tryz.prog) (codes := [(cd (Tryz.f72.body.getD .skip) [1, 1, 1, 1, 1, 0, 1, 0, 0, 1, 1, 1])]) (N := (fun s w => B1 [s 0, s 2, s 3, s 63, s 64] w)) (N' := (fun s w => B1 [s 0, s 2, s 3, s 63, s 64] w)) (X := (fun i => (bif Nat.beq i 2 then (fun s w => s72_p1 K (s 2) (s 3) w) else (fun _ _ => False)))) (X' := (fun i => (bif Nat.beq i 2 then (s72_p1_den K) else (fun _ _ => False)))) (R := s72_R K) (s := s) (w := w) (p := s72_p2 K B1 (s 0) (s 2) (s 3) (s 63) (s 64) w) (q := s72_p2_den K (fun s w => B1 [s 0, s 2, s 3, s 63, s 64] w) s w) tr_id (fun i => (tr_bif (fun s w h => s72_p1_ok K s w @h) tr_id)) (by kernel_rfl) (by kernel_rfl) @h
def s72_p3_d (K : Value → World → Prop) (B1 : List Value → World → Prop) (t0 t2 t3 t7 t63 t64 : Value) (w0 w : World) : Prop :=
  fd 4 t3 (fun t67 _ =>
  ld1 t67 (fun t68 _ =>
  nck t0 (fun t71 _ =>
  fd 16 t71 (fun t72 _ =>
  ld1 t72 (fun t73 _ =>
  ixs 1 t68 t7 (fun t76 _ =>
  cl Tryz.prog 111 #[t73, t7] (fun t75 w =>
  Below w0.heap.size w0 w ∧
  st1 t76 t75 (fun w =>
  s72_p2 K B1 t0 t2 t3 t63 t64 w) w) w) w0) w0) w0) w0) w0) w0
def s72_p3 (K : Value → World → Prop) (B1 : List Value → World → Prop) (t0 t2 t3 t7 t63 t64 : Value) (w : World) : Prop := s72_p3_d K B1 t0 t2 t3 t7 t63 t64 (drw w) (drw w)
def s72_p3_den (K : Value → World → Prop) (M1 : (Nat → Value) → World → Prop) : (Nat → Value) → World → Prop := denL Tryz.prog [(cd (Tryz.f72.body.getD .skip) [1, 1, 1, 1, 1, 0, 1, 0, 0, 1, 1, 0, 0, 1])] (s72_p2_den K M1) (fun i => (bif Nat.beq i 3 then (s72_p2_den K M1) else (bif Nat.beq i 2 then (s72_p1_den K) else (fun _ _ => False)))) (s72_R K)
theorem s72_p3_ok (K : Value → World → Prop) (B1 : List Value → World → Prop) (s : Nat → Value) (w : World) (h : s72_p3 K B1 (s 0) (s 2) (s 3) (s 7) (s 63) (s 64) w) : Tr (s72_p3_den K (fun s w => B1 [s 0, s 2, s 3, s 63, s 64] w) s w) :=
  tr_draw (P := Tryz.prog) (ops := (ro (cd (Tryz.f72.body.getD .skip) [1, 1, 1, 1, 1, 0, 1, 0, 0, 1, 1, 0, 0, 1]))) (ms := [0, 1, 0, 0, 8, 24, 56, 0, 248, 511, 1023]) (cs := [0, 1, 2, 3, 4, 5, 6, 7, 9]) (N := (fun s w => s72_p2 K B1 (s 0) (s 2) (s 3) (s 63) (s 64) w)) (N' := (s72_p2_den K (fun s w => B1 [s 0, s 2, s 3, s 63, s 64] w))) (s := s) (w := w) (p := s72_p3 K B1 (s 0) (s 2) (s 3) (s 7) (s 63) (s 64) w) (q := s72_p3_den K (fun s w => B1 [s 0, s 2, s 3, s 63, s 64] w) s w) (by kernel_rfl) (by kernel_rfl) (fun s w h => s72_p2_ok K B1 s w @h) (by kernel_rfl) (by kernel_rfl) @h
def s72_p4 (K : Value → World → Prop) (B1 : List Value → World → Prop) (t0 t2 t3 t63 t64 : Value) (w : World) : Prop :=
  s72_p3 K B1 t0 t2 t3 t64 t63 t64 w
def s72_p4_den (K : Value → World → Prop) (M1 : (Nat → Value) → World → Prop) : (Nat → Value) → World → Prop := denL Tryz.prog [(cd (Tryz.f72.body.getD .skip) [1, 1, 1, 1, 1, 0, 1, 0, 0, 1, 1, 0, 0, 0])] (s72_p3_den K M1) (fun i => (bif Nat.beq i 3 then (s72_p2_den K M1) else (bif Nat.beq i 2 then (s72_p1_den K) else (fun _ _ => False)))) (s72_R K)
theorem s72_p4_ok (K : Value → World → Prop) (B1 : List Value → World → Prop) (s : Nat → Value) (w : World) (h : s72_p4 K B1 (s 0) (s 2) (s 3) (s 63) (s 64) w) : Tr (s72_p4_den K (fun s w => B1 [s 0, s 2, s 3, s 63, s 64] w) s w) :=
  tr_simple (P := Tryz.prog) (codes := [(cd (Tryz.f72.body.getD .skip) [1, 1, 1, 1, 1, 0, 1, 0, 0, 1, 1, 0, 0, 0])]) (N := (fun s w => s72_p3 K B1 (s 0) (s 2) (s 3) (s 7) (s 63) (s 64) w)) (N' := (s72_p3_den K (fun s w => B1 [s 0, s 2, s 3, s 63, s 64] w))) (X := (fun i => (bif Nat.beq i 3 then (fun s w => s72_p2 K B1 (s 0) (s 2) (s 3) (s 63) (s 64) w) else (bif Nat.beq i 2 then (fun s w => s72_p1 K (s 2) (s 3) w) else (fun _ _ => False))))) (X' := (fun i => (bif Nat.beq i 3 then (s72_p2_den K (fun s w => B1 [s 0, s 2, s 3, s 63, s 64] w)) else (bif Nat.beq i 2 then (s72_p1_den K) else (fun _ _ => False))))) (R := s72_R K) (s := s) (w := w) (p := s72_p4 K B1 (s 0) (s 2) (s 3) (s 63) (s 64) w) (q := s72_p4_den K (fun s w => B1 [s 0, s 2, s 3, s 63, s 64] w) s w) (fun s w h => s72_p3_ok K B1 s w @h) (fun i => (tr_bif (fun s w h => s72_p2_ok K B1 s w @h) (tr_bif (fun s w h => s72_p1_ok K s w @h) tr_id))) (by kernel_rfl) (by kernel_rfl) @h
def s72_p5 (K : Value → World → Prop) (B1 : List Value → World → Prop) (t0 t2 t3 t63 t64 : Value) (w : World) : Prop :=
  boI .lss t64 t63 (fun t65 w =>
  ifb t65
  (s72_p4 K B1 t0 t2 t3 t63 t64 w)
  (s72_p1 K t2 t3 w)) w
def s72_p5_den (K : Value → World → Prop) (M1 : (Nat → Value) → World → Prop) : (Nat → Value) → World → Prop := denL Tryz.prog [(cd (Tryz.f72.body.getD .skip) [1, 1, 1, 1, 1, 0, 1, 0, 0, 0]), (cd (Tryz.f72.body.getD .skip) [1, 1, 1, 1, 1, 0, 1, 0, 0, 1, 0])] (s72_p4_den K M1) (fun i => (bif Nat.beq i 2 then (s72_p1_den K) else (fun _ _ => False))) (s72_R K)
theorem s72_p5_ok (K : Value → World → Prop) (B1 : List Value → World → Prop) (s : Nat → Value) (w : World) (h : s72_p5 K B1 (s 0) (s 2) (s 3) (s 63) (s 64) w) : Tr (s72_p5_den K (fun s w => B1 [s 0, s 2, s 3, s 63, s 64] w) s w) :=
  tr_simple (P := Tryz.prog) (codes := [(cd (Tryz.f72.body.getD .skip) [1, 1, 1, 1, 1, 0, 1, 0, 0, 0]), (cd (Tryz.f72.body.getD .skip) [1, 1, 1, 1, 1, 0, 1, 0, 0, 1, 0])]) (N := (fun s w => s72_p4 K B1 (s 0) (s 2) (s 3) (s 63) (s 64) w)) (N' := (s72_p4_den K (fun s w => B1 [s 0, s 2, s 3, s 63, s 64] w))) (X := (fun i => (bif Nat.beq i 2 then (fun s w => s72_p1 K (s 2) (s 3) w) else (fun _ _ => False)))) (X' := (fun i => (bif Nat.beq i 2 then (s72_p1_den K) else (fun _ _ => False)))) (R := s72_R K) (s := s) (w := w) (p := s72_p5 K B1 (s 0) (s 2) (s 3) (s 63) (s 64) w) (q := s72_p5_den K (fun s w => B1 [s 0, s 2, s 3, s 63, s 64] w) s w) (fun s w h => s72_p4_ok K B1 s w @h) (fun i => (tr_bif (fun s w h => s72_p1_ok K s w @h) tr_id)) (by kernel_rfl) (by kernel_rfl) @h
def s72_p6_F (K : Value → World → Prop) (B1 : List Value → World → Prop) (l : List Value) (w : World) : Prop :=
  match l with
  | [t0, t2, t3, t63, t64] => s72_p5 K B1 t0 t2 t3 t63 t64 w
  | _ => False
theorem s72_p6_Fe {K : Value → World → Prop} {B1 : List Value → World → Prop} {t0 t2 t3 t63 t64 : Value} {w : World} : s72_p6_F K B1 [t0, t2, t3, t63, t64] w = s72_p5 K B1 t0 t2 t3 t63 t64 w := by kernel_rfl
def s72_p6 (K : Value → World → Prop) (t0 t2 t3 t63 t64 : Value) (w : World) : Prop :=
  LoopL (s72_p6_F K) [t0, t2, t3, t63, t64] w
def s72_p6_den (K : Value → World → Prop) : (Nat → Value) → World → Prop := fun s w => LoopP (fun M1 s w => s72_p5_den K M1 s w) s w
theorem s72_p6_ok (K : Value → World → Prop) (s : Nat → Value) (w : World) (h : s72_p6 K (s 0) (s 2) (s 3) (s 63) (s 64) w) : Tr (s72_p6_den K s w) :=
  tr_loop (G := fun N' s w => s72_p5_den K N' s w) (F := s72_p6_F K) (sel := fun s => [s 0, s 2, s 3, s 63, s 64]) (s := s) (w := w) (p := s72_p6 K (s 0) (s 2) (s 3) (s 63) (s 64) w) (q := s72_p6_den K s w) (fun B s w h => s72_p5_ok K B s w @h) (by kernel_rfl) (by kernel_rfl) @h
def s72_p7 (K : Value → World → Prop) (t0 t2 t3 : Value) (w : World) : Prop :=
  nck t0 (fun t54 w =>
  fd 0 t54 (fun t55 w =>
  fd 0 t55 (fun t56 w =>
  ld1 t56 (fun t57 w =>
  lnS t57 (fun t58 w =>
  mks 43 [(.slice none 0 0)] 24 t58 t58 (fun t59 w =>
  fd 4 t3 (fun t60 w =>
  st1 t60 t59 (fun w =>
  fd 4 t3 (fun t61 w =>
  ld1 t61 (fun t62 w =>
  lnS t62 (fun t63 w =>
  s72_p6 K t0 t2 t3 t63 (.int .i64 0) w) w) w) w) w) w) w) w) w) w) w) w
def s72_p7_den (K : Value → World → Prop) : (Nat → Value) → World → Prop := denL Tryz.prog [(cd (Tryz.f72.body.getD .skip) [1, 1, 1, 1, 0]), (cd (Tryz.f72.body.getD .skip) [1, 1, 1, 1, 1, 0, 0])] (s72_p6_den K) (fun i => (fun _ _ => False)) (s72_R K)
theorem s72_p7_ok (K : Value → World → Prop) (s : Nat → Value) (w : World) (h : s72_p7 K (s 0) (s 2) (s 3) w) : Tr (s72_p7_den K s w) :=
  tr_simple (P := Tryz.prog) (codes := [(cd (Tryz.f72.body.getD .skip) [1, 1, 1, 1, 0]), (cd (Tryz.f72.body.getD .skip) [1, 1, 1, 1, 1, 0, 0])]) (N := (fun s w => s72_p6 K (s 0) (s 2) (s 3) (s 63) (s 64) w)) (N' := (s72_p6_den K)) (X := (fun i => (fun _ _ => False))) (X' := (fun i => (fun _ _ => False))) (R := s72_R K) (s := s) (w := w) (p := s72_p7 K (s 0) (s 2) (s 3) w) (q := s72_p7_den K s w) (fun s w h => s72_p6_ok K s w @h) (fun i => tr_id) (by kernel_rfl) (by kernel_rfl) @h
def s72_p8 (K : Value → World → Prop) (B1 : List Value → World → Prop) (t0 t2 t3 t4 : Value) (w : World) : Prop :=
  nck t0 (fun t31 w =>
  fd 15 t31 (fun t32 w =>
  ld1 t32 (fun t33 w =>
  cl Tryz.prog 109 #[t33] (fun t34 w =>
  boI .leq t4 t34 (fun t35 w =>
  ifb t35
  (nck t0 (fun t40 w =>
  fd 15 t40 (fun t41 w =>
  ld1 t41 (fun t42 w =>
  cl Tryz.prog 110 #[t42, t4] (fun t44 w =>
  exq t44 0 (fun t45 w =>
  exq t44 1 (fun t46 w =>
  nw 66 #[(.int .i64 0), (.int .i64 0), (.int .i64 0), (.int .i64 0), (.int .i64 0), (.int .i64 0), (.slice none 0 0)] (fun t5 w =>
  stn 7 t5 t45 (fun w =>
  fd 3 t3 (fun t47 w =>
  ld1 t47 (fun t48 w =>
  ldn 7 t5 (fun t49 w =>
  bsq 66 [(.int .i64 0), (.int .i64 0), (.int .i64 0), (.int .i64 0), (.int .i64 0), (.int .i64 0), (.slice none 0 0)] 1 [(some (0, 7), t49)] (fun t50 w =>
  apq 66 [(.int .i64 0), (.int .i64 0), (.int .i64 0), (.int .i64 0), (.int .i64 0), (.int .i64 0), (.slice none 0 0)] 72 t48 t50 (fun t51 w =>
  fd 3 t3 (fun t52 w =>
  st1 t52 t51 (fun w =>
  boI .add t4 (.int .i64 1) (fun t37 w =>
  B1 [t0, t2, t3, t37] w) w) w) w) w) w) w) w) w) w) w) w) w) w) w) w) w)
  (s72_p7 K t0 t2 t3 w)) w) w) w) w) w
def s72_p8_den (K : Value → World → Prop) (M1 : (Nat → Value) → World → Prop) : (Nat → Value) → World → Prop := denL Tryz.prog [(cd (Tryz.f72.body.getD .skip) [1, 1, 1, 0, 1, 0, 0, 0, 0]), (cd (Tryz.f72.body.getD .skip) [1, 1, 1, 0, 1, 0, 0, 0, 1]), (cd (Tryz.f72.body.getD .skip) [1, 1, 1, 0, 1, 0, 0, 1, 0]), (cd (Tryz.f72.body.getD .skip) [1, 1, 1, 0, 1, 0, 0, 1, 1])] M1 (fun i => (bif Nat.beq i 0 then (s72_p7_den K) else (fun _ _ => False))) (s72_R K)
theorem s72_p8_ok (K : Value → World → Prop) (B1 : List Value → World → Prop) (s : Nat → Value) (w : World) (h : s72_p8 K B1 (s 0) (s 2) (s 3) (s 4) w) : Tr (s72_p8_den K (fun s w => B1 [s 0, s 2, s 3, s 4] w) s w) :=
  tr_simple (P := Tryz.prog) (codes := [(cd (Tryz.f72.body.getD .skip) [1, 1, 1, 0, 1, 0, 0, 0, 0]), (cd (Tryz.f72.body.getD .skip) [1, 1, 1, 0, 1, 0, 0, 0, 1]), (cd (Tryz.f72.body.getD .skip) [1, 1, 1, 0, 1, 0, 0, 1, 0]), (cd (Tryz.f72.body.getD .skip) [1, 1, 1, 0, 1, 0, 0, 1, 1])]) (N := (fun s w => B1 [s 0, s 2, s 3, s 4] w)) (N' := (fun s w => B1 [s 0, s 2, s 3, s 4] w)) (X := (fun i => (bif Nat.beq i 0 then (fun s w => s72_p7 K (s 0) (s 2) (s 3) w) else (fun _ _ => False)))) (X' := (fun i => (bif Nat.beq i 0 then (s72_p7_den K) else (fun _ _ => False)))) (R := s72_R K) (s := s) (w := w) (p := s72_p8 K B1 (s 0) (s 2) (s 3) (s 4) w) (q := s72_p8_den K (fun s w => B1 [s 0, s 2, s 3, s 4] w) s w) tr_id (fun i => (tr_bif (fun s w h => s72_p7_ok K s w @h) tr_id)) (by kernel_rfl) (by kernel_rfl) @h
def s72_p9_F (K : Value → World → Prop) (B1 : List Value → World → Prop) (l : List Value) (w : World) : Prop :=
  match l with
  | [t0, t2, t3, t4] => s72_p8 K B1 t0 t2 t3 t4 w
  | _ => False
theorem s72_p9_Fe {K : Value → World → Prop} {B1 : List Value → World → Prop} {t0 t2 t3 t4 : Value} {w : World} : s72_p9_F K B1 [t0, t2, t3, t4] w = s72_p8 K B1 t0 t2 t3 t4 w := by kernel_rfl
def s72_p9 (K : Value → World → Prop) (t0 t2 t3 t4 : Value) (w : World) : Prop :=
  LoopL (s72_p9_F K) [t0, t2, t3, t4] w
def s72_p9_den (K : Value → World → Prop) : (Nat → Value) → World → Prop := fun s w => LoopP (fun M1 s w => s72_p8_den K M1 s w) s w
theorem s72_p9_ok (K : Value → World → Prop) (s : Nat → Value) (w : World) (h : s72_p9 K (s 0) (s 2) (s 3) (s 4) w) : Tr (s72_p9_den K s w) :=
  tr_loop (G := fun N' s w => s72_p8_den K N' s w) (F := s72_p9_F K) (sel := fun s => [s 0, s 2, s 3, s 4]) (s := s) (w := w) (p := s72_p9 K (s 0) (s 2) (s 3) (s 4) w) (q := s72_p9_den K s w) (fun B s w h => s72_p8_ok K B s w @h) (by kernel_rfl) (by kernel_rfl) @h
def s72_p10 (K : Value → World → Prop) (t0 t2 t3 : Value) (w : World) : Prop :=
  nck t0 (fun t23 w =>
  fd 15 t23 (fun t24 w =>
  ld1 t24 (fun t25 w =>
  cl Tryz.prog 109 #[t25] (fun t26 w =>
  mks 66 [(.int .i64 0), (.int .i64 0), (.int .i64 0), (.int .i64 0), (.int .i64 0), (.int .i64 0), (.slice none 0 0)] 72 (.int .i64 0) t26 (fun t27 w =>
  fd 3 t3 (fun t28 w =>
  st1 t28 t27 (fun w =>
  s72_p9 K t0 t2 t3 (.int .i64 1) w) w) w) w) w) w) w) w
def s72_p10_den (K : Value → World → Prop) : (Nat → Value) → World → Prop := denL Tryz.prog [(cd (Tryz.f72.body.getD .skip) [1, 1, 0]), (cd (Tryz.f72.body.getD .skip) [1, 1, 1, 0, 0])] (s72_p9_den K) (fun i => (fun _ _ => False)) (s72_R K)
theorem s72_p10_ok (K : Value → World → Prop) (s : Nat → Value) (w : World) (h : s72_p10 K (s 0) (s 2) (s 3) w) : Tr (s72_p10_den K s w) :=
  tr_simple (P := Tryz.prog) (codes := [(cd (Tryz.f72.body.getD .skip) [1, 1, 0]), (cd (Tryz.f72.body.getD .skip) [1, 1, 1, 0, 0])]) (N := (fun s w => s72_p9 K (s 0) (s 2) (s 3) (s 4) w)) (N' := (s72_p9_den K)) (X := (fun i => (fun _ _ => False))) (X' := (fun i => (fun _ _ => False))) (R := s72_R K) (s := s) (w := w) (p := s72_p10 K (s 0) (s 2) (s 3) w) (q := s72_p10_den K s w) (fun s w h => s72_p9_ok K s w @h) (fun i => tr_id) (by kernel_rfl) (by kernel_rfl) @h
def s72_p11_d (K : Value → World → Prop) (t0 t2 : Value) (w0 w : World) : Prop :=
  nck t0 (fun t9 _ =>
  fd 0 t9 (fun t10 _ =>
  ldn 14 t10 (fun t11 _ =>
  nck t0 (fun t14 _ =>
  fd 18 t14 (fun t15 _ =>
  ld1 t15 (fun t16 _ =>
  nck t0 (fun t18 _ =>
  fd 14 t18 (fun t19 _ =>
  ld1 t19 (fun t20 _ =>
  (cl Tryz.prog 105 #[t11] (fun t12 w =>
  Below w0.heap.size w0 w ∧
  (bdq [(.int .i64 0), (.int .i64 0), (.int .i64 0), (.slice none 0 0), (.slice none 0 0)] [(some (0, 1), t12), (some (1, 1), t16), (some (2, 1), t20)] (fun t21 w =>
  nw 141 #[(.int .i64 0), (.int .i64 0), (.int .i64 0), (.slice none 0 0), (.slice none 0 0)] (fun t3 w =>
  Below w0.heap.size w0 w ∧
  stn 5 t3 t21 (fun w =>
  s72_p10 K t0 t2 t3 w) w) w) w) ∧
  (nw 141 #[(.int .i64 0), (.int .i64 0), (.int .i64 0), (.slice none 0 0), (.slice none 0 0)] (fun t3_2 w =>
  Below w0.heap.size w0 w ∧
  bdq [(.int .i64 0), (.int .i64 0), (.int .i64 0), (.slice none 0 0), (.slice none 0 0)] [(some (0, 1), t12), (some (1, 1), t16), (some (2, 1), t20)] (fun t21_2 w =>
  stn 5 t3_2 t21_2 (fun w =>
  s72_p10 K t0 t2 t3_2 w) w) w) w)) w) ∧
  (nw 141 #[(.int .i64 0), (.int .i64 0), (.int .i64 0), (.slice none 0 0), (.slice none 0 0)] (fun t3_3 w =>
  Below w0.heap.size w0 w ∧
  cl Tryz.prog 105 #[t11] (fun t12_2 w =>
  Below w0.heap.size w0 w ∧
  bdq [(.int .i64 0), (.int .i64 0), (.int .i64 0), (.slice none 0 0), (.slice none 0 0)] [(some (0, 1), t12_2), (some (1, 1), t16), (some (2, 1), t20)] (fun t21_3 w =>
  stn 5 t3_3 t21_3 (fun w =>
  s72_p10 K t0 t2 t3_3 w) w) w) w) w)) w0) w0) w0) w0) w0) w0) w0) w0) w0
def s72_p11 (K : Value → World → Prop) (t0 t2 : Value) (w : World) : Prop := s72_p11_d K t0 t2 (drw w) (drw w)
def s72_p11_den (K : Value → World → Prop) : (Nat → Value) → World → Prop := denL Tryz.prog [(cd (Tryz.f72.body.getD .skip) [1, 0])] (s72_p10_den K) (fun i => (fun _ _ => False)) (s72_R K)
theorem s72_p11_ok (K : Value → World → Prop) (s : Nat → Value) (w : World) (h : s72_p11 K (s 0) (s 2) w) : Tr (s72_p11_den K s w) :=
  tr_draw (P := Tryz.prog) (ops := (ro (cd (Tryz.f72.body.getD .skip) [1, 0]))) (ms := [0, 1, 3, 7, 15, 0, 32, 96, 224, 0, 512, 1536, 3584, 8191, 0, 32767]) (cs := [0, 1, 2, 3, 5, 6, 7, 8, 9, 10, 11, 12]) (N := (fun s w => s72_p10 K (s 0) (s 2) (s 3) w)) (N' := (s72_p10_den K)) (s := s) (w := w) (p := s72_p11 K (s 0) (s 2) w) (q := s72_p11_den K s w) (by kernel_rfl) (by kernel_rfl) (fun s w h => s72_p10_ok K s w @h) (by kernel_rfl) (by kernel_rfl) @h
def s72_p12 (K : Value → World → Prop) (t0 : Value) (w : World) : Prop :=
  nw 141 #[(.int .i64 0), (.int .i64 0), (.int .i64 0), (.slice none 0 0), (.slice none 0 0)] (fun t2 w =>
  s72_p11 K t0 t2 w) w
def s72_p12_den (K : Value → World → Prop) : (Nat → Value) → World → Prop := denL Tryz.prog [(cd (Tryz.f72.body.getD .skip) [0])] (s72_p11_den K) (fun i => (fun _ _ => False)) (s72_R K)
theorem s72_p12_ok (K : Value → World → Prop) (s : Nat → Value) (w : World) (h : s72_p12 K (s 0) w) : Tr (s72_p12_den K s w) :=
  tr_simple (P := Tryz.prog) (codes := [(cd (Tryz.f72.body.getD .skip) [0])]) (N := (fun s w => s72_p11 K (s 0) (s 2) w)) (N' := (s72_p11_den K)) (X := (fun i => (fun _ _ => False))) (X' := (fun i => (fun _ _ => False))) (R := s72_R K) (s := s) (w := w) (p := s72_p12 K (s 0) w) (q := s72_p12_den K s w) (fun s w h => s72_p11_ok K s w @h) (fun i => tr_id) (by kernel_rfl) (by kernel_rfl) @h
/-- the call, from the text -/
theorem c72 (t0 : Value) {K : Value → World → Prop} {w : World} (h : s72_p12 K t0 w) : cl Tryz.prog 72 #[t0] K w :=
  calls_of_tr (c := (Tryz.f72.body.getD .skip)) (fn := Tryz.f72) (q := s72_p12_den K (st0 #[t0]) w) Tryz.func72 (by kernel_rfl) (by kernel_rfl) (Nat.le_of_ble_eq_true (by kernel_rfl)) (by kernel_rfl) (by kernel_rfl) (s72_p12_ok K (st0 #[t0]) w @h)

/-! ### function 128 : e2e.engine.encodeImage -/
def s128_R (K : Value → World → Prop) (s : Nat → Value) (w : World) : Prop := retv Tryz.prog s Tryz.f128.results.toList (fun vs => K (pack vs) w) w
def s128_p1 (K : Value → World → Prop) (t3 : Value) (w : World) : Prop :=
  K t3 w
def s128_p1_den (K : Value → World → Prop) : (Nat → Value) → World → Prop := denL Tryz.prog [(cd (Tryz.f128.body.getD .skip) [1, 1, 1, 1, 1, 1, 1, 1, 1, 0]), (cd (Tryz.f128.body.getD .skip) [1, 1, 1, 1, 1, 1, 1, 1, 1, 1])] (fun _ _ => False) (fun i => (fun _ _ => False)) (s128_R K)
theorem s128_p1_ok (K : Value → World → Prop) (s : Nat → Value) (w : World) (h : s128_p1 K (s 3) w) : Tr (s128_p1_den K s w) :=
  tr_simple (P := Tryz.prog) (codes := [(cd (Tryz.f128.body.getD .skip) [1, 1, 1, 1, 1, 1, 1, 1, 1, 0]), (cd (Tryz.f128.body.getD .skip) [1, 1, 1, 1, 1, 1, 1, 1, 1, 1])]) (N := (fun _ _ => False)) (N' := (fun _ _ => False)) (X := (fun i => (fun _ _ => False))) (X' := (fun i => (fun _ _ => False))) (R := s128_R K) (s := s) (w := w) (p := s128_p1 K (s 3) w) (q := s128_p1_den K s w) tr_id (fun i => tr_id) (by kernel_rfl) (by kernel_rfl) @h
def s128_p2 (K : Value → World → Prop) (B1 : List Value → World → Prop) (t3 t45 t46 t47 : Value) (w : World) : Prop :=
  boI .add t47 (.int .i64 1) (fun t65 w =>
  B1 [t3, t45, t46, t65] w) w
def s128_p2_den (K : Value → World → Prop) (M1 : (Nat → Value) → World → Prop) : (Nat → Value) → World → Prop := denL Tryz.prog [(cd (Tryz.f128.body.getD .skip) [1, 1, 1, 1, 1, 1, 1, 1, 0, 1, 0, 0, 1, 1, 1])] M1 (fun i => (bif Nat.beq i 2 then (s128_p1_den K) else (fun _ _ => False))) (s128_R K)
theorem s128_p2_ok (K : Value → World → Prop) (B1 : List Value → World → Prop) (s : Nat → Value) (w : World) (h : s128_p2 K B1 (s 3) (s 45) (s 46) (s 47) w) : Tr (s128_p2_den K (fun s w => B1 [s 3, s 45, s 46, s 47] w) s w) :=
  tr_simple (P := Tryz.prog) (codes := [(cd (Tryz.f128.body.getD .skip) [1, 1, 1, 1, 1, 1, 1, 1, 0, 1, 0, 0, 1, 1, 1])]) (N := (fun s w => B1 [s 3, s 45, s 46, s 47] w)) (N' := (fun s w => B1 [s 3, s 45, s 46, s 47] w)) (X := (fun i => (bif Nat.beq i 2 then (fun s w => s128_p1 K (s 3) w) else (fun _ _ => False)))) (X' := (fun i => (bif Nat.beq i 2 then (s128_p1_den K) else (fun _ _ => False)))) (R := s128_R K) (s := s) (w := w) (p := s128_p2 K B1 (s 3) (s 45) (s 46) (s 47) w) (q := s128_p2_den K (fun s w => B1 [s 3, s 45, s 46, s 47] w) s w) tr_id (fun i => (tr_bif (fun s w h => s128_p1_ok K s w @h) tr_id)) (by kernel_rfl) (by kernel_rfl) @h
def s128_p3 (K : Value → World → Prop) (B1 : List Value → World → Prop) (B2 : List Value → World → Prop) (t3 t45 t46 t47 t55 t56 t57 : Value) (w : World) : Prop :=
  boI .lss t57 t56 (fun t58 w =>
  ifb t58
  (ixs 1 t55 t57 (fun t59 w =>
  ld1 t59 (fun t60 w =>
  cl Tryz.prog 98 #[t3, t60] (fun t63 w =>
  boI .add t57 (.int .i64 1) (fun t64 w =>
  B2 [t63, t45, t46, t47, t55, t56, t64] w) w) w) w) w)
  (s128_p2 K B1 t3 t45 t46 t47 w)) w
def s128_p3_den (K : Value → World → Prop) (M1 : (Nat → Value) → World → Prop) (M2 : (Nat → Value) → World → Prop) : (Nat → Value) → World → Prop := denL Tryz.prog [(cd (Tryz.f128.body.getD .skip) [1, 1, 1, 1, 1, 1, 1, 1, 0, 1, 0, 0, 1, 1, 0, 0, 1, 1, 1, 0, 0, 0]), (cd (Tryz.f128.body.getD .skip) [1, 1, 1, 1, 1, 1, 1, 1, 0, 1, 0, 0, 1, 1, 0, 0, 1, 1, 1, 0, 0, 1, 0]), (cd (Tryz.f128.body.getD .skip) [1, 1, 1, 1, 1, 1, 1, 1, 0, 1, 0, 0, 1, 1, 0, 0, 1, 1, 1, 0, 0, 1, 1, 0]), (cd (Tryz.f128.body.getD .skip) [1, 1, 1, 1, 1, 1, 1, 1, 0, 1, 0, 0, 1, 1, 0, 0, 1, 1, 1, 0, 0, 1, 1, 1])] M2 (fun i => (bif Nat.beq i 4 then (s128_p2_den K M1) else (bif Nat.beq i 3 then (s128_p2_den K M1) else (bif Nat.beq i 2 then (s128_p1_den K) else (fun _ _ => False))))) (s128_R K)
theorem s128_p3_ok (K : Value → World → Prop) (B1 : List Value → World → Prop) (B2 : List Value → World → Prop) (s : Nat → Value) (w : World) (h : s128_p3 K B1 B2 (s 3) (s 45) (s 46) (s 47) (s 55) (s 56) (s 57) w) : Tr (s128_p3_den K (fun s w => B1 [s 3, s 45, s 46, s 47] w) (fun s w => B2 [s 3, s 45, s 46, s 47, s 55, s 56, s 57] w) s w) :=
  tr_simple (P := Tryz.prog) (codes := [(cd (Tryz.f128.body.getD .skip) [1, 1, 1, 1, 1, 1, 1, 1, 0, 1, 0, 0, 1, 1, 0, 0, 1, 1, 1, 0, 0, 0]), (cd (Tryz.f128.body.getD .skip) [1, 1, 1, 1, 1, 1, 1, 1, 0, 1, 0, 0, 1, 1, 0, 0, 1, 1, 1, 0, 0, 1, 0]), (cd (Tryz.f128.body.getD .skip) [1, 1, 1, 1, 1, 1, 1, 1, 0, 1, 0, 0, 1, 1, 0, 0, 1, 1, 1, 0, 0, 1, 1, 0]), (cd (Tryz.f128.body.getD .skip) [1, 1, 1, 1, 1, 1, 1, 1, 0, 1, 0, 0, 1, 1, 0, 0, 1, 1, 1, 0, 0, 1, 1, 1])]) (N := (fun s w => B2 [s 3, s 45, s 46, s 47, s 55, s 56, s 57] w)) (N' := (fun s w => B2 [s 3, s 45, s 46, s 47, s 55, s 56, s 57] w)) (X := (fun i => (bif Nat.beq i 4 then (fun s w => s128_p2 K B1 (s 3) (s 45) (s 46) (s 47) w) else (bif Nat.beq i 3 then (fun s w => s128_p2 K B1 (s 3) (s 45) (s 46) (s 47) w) else (bif Nat.beq i 2 then (fun s w => s128_p1 K (s 3) w) else (fun _ _ => False)))))) (X' := (fun i => (bif Nat.beq i 4 then (s128_p2_den K (fun s w => B1 [s 3, s 45, s 46, s 47] w)) else (bif Nat.beq i 3 then (s128_p2_den K (fun s w => B1 [s 3, s 45, s 46, s 47] w)) else (bif Nat.beq i 2 then (s128_p1_den K) else (fun _ _ => False)))))) (R := s128_R K) (s := s) (w := w) (p := s128_p3 K B1 B2 (s 3) (s 45) (s 46) (s 47) (s 55) (s 56) (s 57) w) (q := s128_p3_den K (fun s w => B1 [s 3, s 45, s 46, s 47] w) (fun s w => B2 [s 3, s 45, s 46, s 47, s 55, s 56, s 57] w) s w) tr_id (fun i => (tr_bif (fun s w h => s128_p2_ok K B1 s w @h) (tr_bif (fun s w h => s128_p2_ok K B1 s w @h) (tr_bif (fun s w h => s128_p1_ok K s w @h) tr_id)))) (by kernel_rfl) (by kernel_rfl) @h
def s128_p4_F (K : Value → World → Prop) (B1 : List Value → World → Prop) (B2 : List Value → World → Prop) (l : List Value) (w : World) : Prop :=
  match l with
  | [t3, t45, t46, t47, t55, t56, t57] => s128_p3 K B1 B2 t3 t45 t46 t47 t55 t56 t57 w
  | _ => False
theorem s128_p4_Fe {K : Value → World → Prop} {B1 : List Value → World → Prop} {B2 : List Value → World → Prop} {t3 t45 t46 t47 t55 t56 t57 : Value} {w : World} : s128_p4_F K B1 B2 [t3, t45, t46, t47, t55, t56, t57] w = s128_p3 K B1 B2 t3 t45 t46 t47 t55 t56 t57 w := by kernel_rfl
def s128_p4 (K : Value → World → Prop) (B1 : List Value → World → Prop) (t3 t45 t46 t47 t55 t56 t57 : Value) (w : World) : Prop :=
  LoopL (s128_p4_F K B1) [t3, t45, t46, t47, t55, t56, t57] w
def s128_p4_den (K : Value → World → Prop) (M1 : (Nat → Value) → World → Prop) : (Nat → Value) → World → Prop := fun s w => LoopP (fun M2 s w => s128_p3_den K M1 M2 s w) s w
theorem s128_p4_ok (K : Value → World → Prop) (B1 : List Value → World → Prop) (s : Nat → Value) (w : World) (h : s128_p4 K B1 (s 3) (s 45) (s 46) (s 47) (s 55) (s 56) (s 57) w) : Tr (s128_p4_den K (fun s w => B1 [s 3, s 45, s 46, s 47] w) s w) :=
  tr_loop (G := fun N' s w => s128_p3_den K (fun s w => B1 [s 3, s 45, s 46, s 47] w) N' s w) (F := s128_p4_F K B1) (sel := fun s => [s 3, s 45, s 46, s 47, s 55, s 56, s 57]) (s := s) (w := w) (p := s128_p4 K B1 (s 3) (s 45) (s 46) (s 47) (s 55) (s 56) (s 57) w) (q := s128_p4_den K (fun s w => B1 [s 3, s 45, s 46, s 47] w) s w) (fun B s w h => s128_p3_ok K B1 B s w @h) (by kernel_rfl) (by kernel_rfl) @h
def s128_p5 (K : Value → World → Prop) (B1 : List Value → World → Prop) (t3 t45 t46 t47 : Value) (w : World) : Prop :=
  ixs 1 t45 t47 (fun t49 w =>
  ld1 t49 (fun t50 w =>
  lnS t50 (fun t53 w =>
  cl Tryz.prog 98 #[t3, t53] (fun t54 w =>
  lnS t50 (fun t56 w =>
  s128_p4 K B1 t54 t45 t46 t47 t50 t56 (.int .i64 0) w) w) w) w) w) w
def s128_p5_den (K : Value → World → Prop) (M1 : (Nat → Value) → World → Prop) : (Nat → Value) → World → Prop := denL Tryz.prog [(cd (Tryz.f128.body.getD .skip) [1, 1, 1, 1, 1, 1, 1, 1, 0, 1, 0, 0, 1, 1, 0, 0, 0]), (cd (Tryz.f128.body.getD .skip) [1, 1, 1, 1, 1, 1, 1, 1, 0, 1, 0, 0, 1, 1, 0, 0, 1, 0]), (cd (Tryz.f128.body.getD .skip) [1, 1, 1, 1, 1, 1, 1, 1, 0, 1, 0, 0, 1, 1, 0, 0, 1, 1, 0])] (s128_p4_den K M1) (fun i => (bif Nat.beq i 3 then (s128_p2_den K M1) else (bif Nat.beq i 2 then (s128_p1_den K) else (fun _ _ => False)))) (s128_R K)
theorem s128_p5_ok (K : Value → World → Prop) (B1 : List Value → World → Prop) (s : Nat → Value) (w : World) (h : s128_p5 K B1 (s 3) (s 45) (s 46) (s 47) w) : Tr (s128_p5_den K (fun s w => B1 [s 3, s 45, s 46, s 47] w) s w) :=
  tr_simple (P := Tryz.prog) (codes := [(cd (Tryz.f128.body.getD .skip) [1, 1, 1, 1, 1, 1, 1, 1, 0, 1, 0, 0, 1, 1, 0, 0, 0]), (cd (Tryz.f128.body.getD .skip) [1, 1, 1, 1, 1, 1, 1, 1, 0, 1, 0, 0, 1, 1, 0, 0, 1, 0]), (cd (Tryz.f128.body.getD .skip) [1, 1, 1, 1, 1, 1, 1, 1, 0, 1, 0, 0, 1, 1, 0, 0, 1, 1, 0])]) (N := (fun s w => s128_p4 K B1 (s 3) (s 45) (s 46) (s 47) (s 55) (s 56) (s 57) w)) (N' := (s128_p4_den K (fun s w => B1 [s 3, s 45, s 46, s 47] w))) (X := (fun i => (bif Nat.beq i 3 then (fun s w => s128_p2 K B1 (s 3) (s 45) (s 46) (s 47) w) else (bif Nat.beq i 2 then (fun s w => s128_p1 K (s 3) w) else (fun _ _ => False))))) (X' := (fun i => (bif Nat.beq i 3 then (s128_p2_den K (fun s w => B1 [s 3, s 45, s 46, s 47] w)) else (bif Nat.beq i 2 then (s128_p1_den K) else (fun _ _ => False))))) (R := s128_R K) (s := s) (w := w) (p := s128_p5 K B1 (s 3) (s 45) (s 46) (s 47) w) (q := s128_p5_den K (fun s w => B1 [s 3, s 45, s 46, s 47] w) s w) (fun s w h => s128_p4_ok K B1 s w @h) (fun i => (tr_bif (fun s w h => s128_p2_ok K B1 s w @h) (tr_bif (fun s w h => s128_p1_ok K s w @h) tr_id))) (by kernel_rfl) (by kernel_rfl) @h
def s128_p6 (K : Value → World → Prop) (B1 : List Value → World → Prop) (t3 t45 t46 t47 : Value) (w : World) : Prop :=
  boI .lss t47 t46 (fun t48 w =>
  ifb t48
  (s128_p5 K B1 t3 t45 t46 t47 w)
  (s128_p1 K t3 w)) w
def s128_p6_den (K : Value → World → Prop) (M1 : (Nat → Value) → World → Prop) : (Nat → Value) → World → Prop := denL Tryz.prog [(cd (Tryz.f128.body.getD .skip) [1, 1, 1, 1, 1, 1, 1, 1, 0, 1, 0, 0, 0]), (cd (Tryz.f128.body.getD .skip) [1, 1, 1, 1, 1, 1, 1, 1, 0, 1, 0, 0, 1, 0])] (s128_p5_den K M1) (fun i => (bif Nat.beq i 2 then (s128_p1_den K) else (fun _ _ => False))) (s128_R K)
theorem s128_p6_ok (K : Value → World → Prop) (B1 : List Value → World → Prop) (s : Nat → Value) (w : World) (h : s128_p6 K B1 (s 3) (s 45) (s 46) (s 47) w) : Tr (s128_p6_den K (fun s w => B1 [s 3, s 45, s 46, s 47] w) s w) :=
  tr_simple (P := Tryz.prog) (codes := [(cd (Tryz.f128.body.getD .skip) [1, 1, 1, 1, 1, 1, 1, 1, 0, 1, 0, 0, 0]), (cd (Tryz.f128.body.getD .skip) [1, 1, 1, 1, 1, 1, 1, 1, 0, 1, 0, 0, 1, 0])]) (N := (fun s w => s128_p5 K B1 (s 3) (s 45) (s 46) (s 47) w)) (N' := (s128_p5_den K (fun s w => B1 [s 3, s 45, s 46, s 47] w))) (X := (fun i => (bif Nat.beq i 2 then (fun s w => s128_p1 K (s 3) w) else (fun _ _ => False)))) (X' := (fun i => (bif Nat.beq i 2 then (s128_p1_den K) else (fun _ _ => False)))) (R := s128_R K) (s := s) (w := w) (p := s128_p6 K B1 (s 3) (s 45) (s 46) (s 47) w) (q := s128_p6_den K (fun s w => B1 [s 3, s 45, s 46, s 47] w) s w) (fun s w h => s128_p5_ok K B1 s w @h) (fun i => (tr_bif (fun s w h => s128_p1_ok K s w @h) tr_id)) (by kernel_rfl) (by kernel_rfl) @h
def s128_p7_F (K : Value → World → Prop) (B1 : List Value → World → Prop) (l : List Value) (w : World) : Prop :=
  match l with
  | [t3, t45, t46, t47] => s128_p6 K B1 t3 t45 t46 t47 w
  | _ => False
theorem s128_p7_Fe {K : Value → World → Prop} {B1 : List Value → World → Prop} {t3 t45 t46 t47 : Value} {w : World} : s128_p7_F K B1 [t3, t45, t46, t47] w = s128_p6 K B1 t3 t45 t46 t47 w := by kernel_rfl
def s128_p7 (K : Value → World → Prop) (t3 t45 t46 t47 : Value) (w : World) : Prop :=
  LoopL (s128_p7_F K) [t3, t45, t46, t47] w
def s128_p7_den (K : Value → World → Prop) : (Nat → Value) → World → Prop := fun s w => LoopP (fun M1 s w => s128_p6_den K M1 s w) s w
theorem s128_p7_ok (K : Value → World → Prop) (s : Nat → Value) (w : World) (h : s128_p7 K (s 3) (s 45) (s 46) (s 47) w) : Tr (s128_p7_den K s w) :=
  tr_loop (G := fun N' s w => s128_p6_den K N' s w) (F := s128_p7_F K) (sel := fun s => [s 3, s 45, s 46, s 47]) (s := s) (w := w) (p := s128_p7 K (s 3) (s 45) (s 46) (s 47) w) (q := s128_p7_den K s w) (fun B s w h => s128_p6_ok K B s w @h) (by kernel_rfl) (by kernel_rfl) @h
def s128_p8 (K : Value → World → Prop) (t1 t3 : Value) (w : World) : Prop :=
  fd 4 t1 (fun t40 w =>
  ld1 t40 (fun t41 w =>
  lnS t41 (fun t42 w =>
  cl Tryz.prog 98 #[t3, t42] (fun t43 w =>
  fd 4 t1 (fun t44 w =>
  ld1 t44 (fun t45 w =>
  lnS t45 (fun t46 w =>
  s128_p7 K t43 t45 t46 (.int .i64 0) w) w) w) w) w) w) w) w
def s128_p8_den (K : Value → World → Prop) : (Nat → Value) → World → Prop := denL Tryz.prog [(cd (Tryz.f128.body.getD .skip) [1, 1, 1, 1, 1, 1, 1, 0]), (cd (Tryz.f128.body.getD .skip) [1, 1, 1, 1, 1, 1, 1, 1, 0, 0])] (s128_p7_den K) (fun i => (fun _ _ => False)) (s128_R K)
theorem s128_p8_ok (K : Value → World → Prop) (s : Nat → Value) (w : World) (h : s128_p8 K (s 1) (s 3) w) : Tr (s128_p8_den K s w) :=
  tr_simple (P := Tryz.prog) (codes := [(cd (Tryz.f128.body.getD .skip) [1, 1, 1, 1, 1, 1, 1, 0]), (cd (Tryz.f128.body.getD .skip) [1, 1, 1, 1, 1, 1, 1, 1, 0, 0])]) (N := (fun s w => s128_p7 K (s 3) (s 45) (s 46) (s 47) w)) (N' := (s128_p7_den K)) (X := (fun i => (fun _ _ => False))) (X' := (fun i => (fun _ _ => False))) (R := s128_R K) (s := s) (w := w) (p := s128_p8 K (s 1) (s 3) w) (q := s128_p8_den K s w) (fun s w h => s128_p7_ok K s w @h) (fun i => tr_id) (by kernel_rfl) (by kernel_rfl) @h
def s128_p9 (K : Value → World → Prop) (B1 : List Value → World → Prop) (t1 t3 t29 t30 t31 : Value) (w : World) : Prop :=
  boI .lss t31 t30 (fun t32 w =>
  ifb t32
  (ixs 7 t29 t31 (fun t33 w =>
  ldn 7 t33 (fun t34 w =>
  nw 66 #[(.int .i64 0), (.int .i64 0), (.int .i64 0), (.int .i64 0), (.int .i64 0), (.int .i64 0), (.slice none 0 0)] (fun t5 w =>
  stn 7 t5 t34 (fun w =>
  ldn 7 t5 (fun t36 w =>
  cl Tryz.prog 100 #[t3, t36] (fun t37 w =>
  boI .add t31 (.int .i64 1) (fun t38 w =>
  B1 [t1, t37, t29, t30, t38] w) w) w) w) w) w) w) w)
  (s128_p8 K t1 t3 w)) w
def s128_p9_den (K : Value → World → Prop) (M1 : (Nat → Value) → World → Prop) : (Nat → Value) → World → Prop := denL Tryz.prog [(cd (Tryz.f128.body.getD .skip) [1, 1, 1, 1, 1, 1, 0, 1, 0, 0, 0]), (cd (Tryz.f128.body.getD .skip) [1, 1, 1, 1, 1, 1, 0, 1, 0, 0, 1, 0]), (cd (Tryz.f128.body.getD .skip) [1, 1, 1, 1, 1, 1, 0, 1, 0, 0, 1, 1, 0]), (cd (Tryz.f128.body.getD .skip) [1, 1, 1, 1, 1, 1, 0, 1, 0, 0, 1, 1, 1])] M1 (fun i => (bif Nat.beq i 0 then (s128_p8_den K) else (fun _ _ => False))) (s128_R K)
theorem s128_p9_ok (K : Value → World → Prop) (B1 : List Value → World → Prop) (s : Nat → Value) (w : World) (h : s128_p9 K B1 (s 1) (s 3) (s 29) (s 30) (s 31) w) : Tr (s128_p9_den K (fun s w => B1 [s 1, s 3, s 29, s 30, s 31] w) s w) :=
  tr_simple (P := Tryz.prog) (codes := [(cd (Tryz.f128.body.getD .skip) [1, 1, 1, 1, 1, 1, 0, 1, 0, 0, 0]), (cd (Tryz.f128.body.getD .skip) [1, 1, 1, 1, 1, 1, 0, 1, 0, 0, 1, 0]), (cd (Tryz.f128.body.getD .skip) [1, 1, 1, 1, 1, 1, 0, 1, 0, 0, 1, 1, 0]), (cd (Tryz.f128.body.getD .skip) [1, 1, 1, 1, 1, 1, 0, 1, 0, 0, 1, 1, 1])]) (N := (fun s w => B1 [s 1, s 3, s 29, s 30, s 31] w)) (N' := (fun s w => B1 [s 1, s 3, s 29, s 30, s 31] w)) (X := (fun i => (bif Nat.beq i 0 then (fun s w => s128_p8 K (s 1) (s 3) w) else (fun _ _ => False)))) (X' := (fun i => (bif Nat.beq i 0 then (s128_p8_den K) else (fun _ _ => False)))) (R := s128_R K) (s := s) (w := w) (p := s128_p9 K B1 (s 1) (s 3) (s 29) (s 30) (s 31) w) (q := s128_p9_den K (fun s w => B1 [s 1, s 3, s 29, s 30, s 31] w) s w) tr_id (fun i => (tr_bif (fun s w h => s128_p8_ok K s w @h) tr_id)) (by kernel_rfl) (by kernel_rfl) @h
def s128_p10_F (K : Value → World → Prop) (B1 : List Value → World → Prop) (l : List Value) (w : World) : Prop :=
  match l with
  | [t1, t3, t29, t30, t31] => s128_p9 K B1 t1 t3 t29 t30 t31 w
  | _ => False
theorem s128_p10_Fe {K : Value → World → Prop} {B1 : List Value → World → Prop} {t1 t3 t29 t30 t31 : Value} {w : World} : s128_p10_F K B1 [t1, t3, t29, t30, t31] w = s128_p9 K B1 t1 t3 t29 t30 t31 w := by kernel_rfl
def s128_p10 (K : Value → World → Prop) (t1 t3 t29 t30 t31 : Value) (w : World) : Prop :=
  LoopL (s128_p10_F K) [t1, t3, t29, t30, t31] w
def s128_p10_den (K : Value → World → Prop) : (Nat → Value) → World → Prop := fun s w => LoopP (fun M1 s w => s128_p9_den K M1 s w) s w
theorem s128_p10_ok (K : Value → World → Prop) (s : Nat → Value) (w : World) (h : s128_p10 K (s 1) (s 3) (s 29) (s 30) (s 31) w) : Tr (s128_p10_den K s w) :=
  tr_loop (G := fun N' s w => s128_p9_den K N' s w) (F := s128_p10_F K) (sel := fun s => [s 1, s 3, s 29, s 30, s 31]) (s := s) (w := w) (p := s128_p10 K (s 1) (s 3) (s 29) (s 30) (s 31) w) (q := s128_p10_den K s w) (fun B s w h => s128_p9_ok K B s w @h) (by kernel_rfl) (by kernel_rfl) @h
def s128_p11 (K : Value → World → Prop) (t0 : Value) (w : World) : Prop :=
  nw 141 (t0).cells (fun t1 w =>
  bsq 5 [(.int .u8 0)] 1 [(some (0, 1), (.int .u8 1))] (fun t10 w =>
  fd 0 t1 (fun t12 w =>
  ld1 t12 (fun t13 w =>
  cl Tryz.prog 98 #[t10, t13] (fun t14 w =>
  fd 1 t1 (fun t16 w =>
  ld1 t16 (fun t17 w =>
  cl Tryz.prog 98 #[t14, t17] (fun t18 w =>
  fd 2 t1 (fun t20 w =>
  ld1 t20 (fun t21 w =>
  cl Tryz.prog 98 #[t18, t21] (fun t22 w =>
  fd 3 t1 (fun t24 w =>
  ld1 t24 (fun t25 w =>
  lnS t25 (fun t26 w =>
  cl Tryz.prog 98 #[t22, t26] (fun t27 w =>
  fd 3 t1 (fun t28 w =>
  ld1 t28 (fun t29 w =>
  lnS t29 (fun t30 w =>
  s128_p10 K t1 t27 t29 t30 (.int .i64 0) w) w) w) w) w) w) w) w) w) w) w) w) w) w) w) w) w) w) w
def s128_p11_den (K : Value → World → Prop) : (Nat → Value) → World → Prop := denL Tryz.prog [(cd (Tryz.f128.body.getD .skip) [0]), (cd (Tryz.f128.body.getD .skip) [1, 0]), (cd (Tryz.f128.body.getD .skip) [1, 1, 0]), (cd (Tryz.f128.body.getD .skip) [1, 1, 1, 0]), (cd (Tryz.f128.body.getD .skip) [1, 1, 1, 1, 0]), (cd (Tryz.f128.body.getD .skip) [1, 1, 1, 1, 1, 0]), (cd (Tryz.f128.body.getD .skip) [1, 1, 1, 1, 1, 1, 0, 0])] (s128_p10_den K) (fun i => (fun _ _ => False)) (s128_R K)
theorem s128_p11_ok (K : Value → World → Prop) (s : Nat → Value) (w : World) (h : s128_p11 K (s 0) w) : Tr (s128_p11_den K s w) :=
  tr_simple (P := Tryz.prog) (codes := [(cd (Tryz.f128.body.getD .skip) [0]), (cd (Tryz.f128.body.getD .skip) [1, 0]), (cd (Tryz.f128.body.getD .skip) [1, 1, 0]), (cd (Tryz.f128.body.getD .skip) [1, 1, 1, 0]), (cd (Tryz.f128.body.getD .skip) [1, 1, 1, 1, 0]), (cd (Tryz.f128.body.getD .skip) [1, 1, 1, 1, 1, 0]), (cd (Tryz.f128.body.getD .skip) [1, 1, 1, 1, 1, 1, 0, 0])]) (N := (fun s w => s128_p10 K (s 1) (s 3) (s 29) (s 30) (s 31) w)) (N' := (s128_p10_den K)) (X := (fun i => (fun _ _ => False))) (X' := (fun i => (fun _ _ => False))) (R := s128_R K) (s := s) (w := w) (p := s128_p11 K (s 0) w) (q := s128_p11_den K s w) (fun s w h => s128_p10_ok K s w @h) (fun i => tr_id) (by kernel_rfl) (by kernel_rfl) @h
/-- the call, from the text -/
theorem c128 (t0 : Value) {K : Value → World → Prop} {w : World} (h : s128_p11 K t0 w) : cl Tryz.prog 128 #[t0] K w :=
  calls_of_tr (c := (Tryz.f128.body.getD .skip)) (fn := Tryz.f128) (q := s128_p11_den K (st0 #[t0]) w) Tryz.func128 (by kernel_rfl) (by kernel_rfl) (Nat.le_of_ble_eq_true (by kernel_rfl)) (by kernel_rfl) (by kernel_rfl) (s128_p11_ok K (st0 #[t0]) w @h)

/-! ### function 83 : e2e.engine.decodeImage -/
def s83_R (K : Value → World → Prop) (s : Nat → Value) (w : World) : Prop := retv Tryz.prog s Tryz.f83.results.toList (fun vs => K (pack vs) w) w
def s83_p1 (K : Value → World → Prop) (t2 t4 t5 : Value) (w : World) : Prop :=
  cl Tryz.prog 42 #[t4] (fun t35 w =>
  un .not t35 (fun t36 w =>
  ifb t36
  (bdq [(.int .i64 0), (.int .i64 0), (.int .i64 0), (.slice none 0 0), (.slice none 0 0)] [] (fun t37 w =>
  stn 5 t2 t37 (fun w =>
  ldn 5 t2 (fun r0 _ =>
  K (.tuple #[r0, (.bool false)]) w) w) w) w)
  (ldn 5 t5 (fun t38 w =>
  stn 5 t2 t38 (fun w =>
  ldn 5 t2 (fun r0 _ =>
  K (.tuple #[r0, (.bool true)]) w) w) w) w)) w) w
def s83_p1_den (K : Value → World → Prop) : (Nat → Value) → World → Prop := denL Tryz.prog [(cd (Tryz.f83.body.getD .skip) [1, 1, 1, 1, 1, 1, 1, 1, 1, 1, 0, 0]), (cd (Tryz.f83.body.getD .skip) [1, 1, 1, 1, 1, 1, 1, 1, 1, 1, 0, 1]), (cd (Tryz.f83.body.getD .skip) [1, 1, 1, 1, 1, 1, 1, 1, 1, 1, 1, 0]), (cd (Tryz.f83.body.getD .skip) [1, 1, 1, 1, 1, 1, 1, 1, 1, 1, 1, 1])] (fun _ _ => False) (fun i => (fun _ _ => False)) (s83_R K)
theorem s83_p1_ok (K : Value → World → Prop) (s : Nat → Value) (w : World) (h : s83_p1 K (s 2) (s 4) (s 5) w) : Tr (s83_p1_den K s w) :=
  tr_simple (P := Tryz.prog) (codes := [(cd (Tryz.f83.body.getD .skip) [1, 1, 1, 1, 1, 1, 1, 1, 1, 1, 0, 0]), (cd (Tryz.f83.body.getD .skip) [1, 1, 1, 1, 1, 1, 1, 1, 1, 1, 0, 1]), (cd (Tryz.f83.body.getD .skip) [1, 1, 1, 1, 1, 1, 1, 1, 1, 1, 1, 0]), (cd (Tryz.f83.body.getD .skip) [1, 1, 1, 1, 1, 1, 1, 1, 1, 1, 1, 1])]) (N := (fun _ _ => False)) (N' := (fun _ _ => False)) (X := (fun i => (fun _ _ => False))) (X' := (fun i => (fun _ _ => False))) (R := s83_R K) (s := s) (w := w) (p := s83_p1 K (s 2) (s 4) (s 5) w) (q := s83_p1_den K s w) tr_id (fun i => tr_id) (by kernel_rfl) (by kernel_rfl) @h
def s83_p2 (K : Value → World → Prop) (B1 : List Value → World → Prop) (t2 t4 t5 t25 t26 : Value) (w : World) : Prop :=
  boI .add t26 (.int .i64 1) (fun t34 w =>
  B1 [t2, t4, t5, t25, t34] w) w
def s83_p2_den (K : Value → World → Prop) (M1 : (Nat → Value) → World → Prop) : (Nat → Value) → World → Prop := denL Tryz.prog [(cd (Tryz.f83.body.getD .skip) [1, 1, 1, 1, 1, 1, 1, 1, 1, 0, 1, 0, 0, 1, 1, 1])] M1 (fun i => (bif Nat.beq i 0 then (s83_p1_den K) else (fun _ _ => False))) (s83_R K)
theorem s83_p2_ok (K : Value → World → Prop) (B1 : List Value → World → Prop) (s : Nat → Value) (w : World) (h : s83_p2 K B1 (s 2) (s 4) (s 5) (s 25) (s 26) w) : Tr (s83_p2_den K (fun s w => B1 [s 2, s 4, s 5, s 25, s 26] w) s w) :=
  tr_simple (P := Tryz.prog) (codes := [(cd (Tryz.f83.body.getD .skip) [1, 1, 1, 1, 1, 1, 1, 1, 1, 0, 1, 0, 0, 1, 1, 1])]) (N := (fun s w => B1 [s 2, s 4, s 5, s 25, s 26] w)) (N' := (fun s w => B1 [s 2, s 4, s 5, s 25, s 26] w)) (X := (fun i => (bif Nat.beq i 0 then (fun s w => s83_p1 K (s 2) (s 4) (s 5) w) else (fun _ _ => False)))) (X' := (fun i => (bif Nat.beq i 0 then (s83_p1_den K) else (fun _ _ => False)))) (R := s83_R K) (s := s) (w := w) (p := s83_p2 K B1 (s 2) (s 4) (s 5) (s 25) (s 26) w) (q := s83_p2_den K (fun s w => B1 [s 2, s 4, s 5, s 25, s 26] w) s w) tr_id (fun i => (tr_bif (fun s w h => s83_p1_ok K s w @h) tr_id)) (by kernel_rfl) (by kernel_rfl) @h
def s83_p3_d (K : Value → World → Prop) (B1 : List Value → World → Prop) (J : World → Prop) (t2 t4 t5 t6 t25 t26 : Value) (w0 w : World) : Prop :=
  fd 4 t5 (fun t29 _ =>
  Go.Sh.R.qw J (ld1 t29) (fun t30 =>
  ixs 1 t30 t6 (fun t33 _ =>
  cl Tryz.prog 47 #[t4] (fun t32 w =>
  J w ∧
  st1 t33 t32 (fun w =>
  s83_p2 K B1 t2 t4 t5 t25 t26 w) w) w) w0)) w0
def s83_p3 (K : Value → World → Prop) (B1 : List Value → World → Prop) (t2 t4 t5 t6 t25 t26 : Value) (w : World) : Prop := ∃ J : World → Prop, J (drw w) ∧ s83_p3_d K B1 J t2 t4 t5 t6 t25 t26 (drw w) (drw w)
def s83_p3_den (K : Value → World → Prop) (M1 : (Nat → Value) → World → Prop) : (Nat → Value) → World → Prop := denL Tryz.prog [(cd (Tryz.f83.body.getD .skip) [1, 1, 1, 1, 1, 1, 1, 1, 1, 0, 1, 0, 0, 1, 1, 0, 0, 1])] (s83_p2_den K M1) (fun i => (bif Nat.beq i 1 then (s83_p2_den K M1) else (bif Nat.beq i 0 then (s83_p1_den K) else (fun _ _ => False)))) (s83_R K)
theorem s83_p3_ok (K : Value → World → Prop) (B1 : List Value → World → Prop) (s : Nat → Value) (w : World) (h : s83_p3 K B1 (s 2) (s 4) (s 5) (s 6) (s 25) (s 26) w) : Tr (s83_p3_den K (fun s w => B1 [s 2, s 4, s 5, s 25, s 26] w) s w) :=
  Go.Sh.R.tr_drawR (P := Tryz.prog) (ops := (ro (cd (Tryz.f83.body.getD .skip) [1, 1, 1, 1, 1, 1, 1, 1, 1, 0, 1, 0, 0, 1, 1, 0, 0, 1]))) (ms := [0, 1, 0, 0, 15, 31]) (cs := [0, 1, 2, 4]) (N := (fun s w => s83_p2 K B1 (s 2) (s 4) (s 5) (s 25) (s 26) w)) (N' := (s83_p2_den K (fun s w => B1 [s 2, s 4, s 5, s 25, s 26] w))) (s := s) (w := w) (p := fun J => s83_p3_d K B1 J (s 2) (s 4) (s 5) (s 6) (s 25) (s 26) (drw w) (drw w)) (q := s83_p3_den K (fun s w => B1 [s 2, s 4, s 5, s 25, s 26] w) s w) (by kernel_rfl) (by kernel_rfl) (fun s w h => s83_p2_ok K B1 s w @h) (by kernel_rfl) (by kernel_rfl) @h
def s83_p4 (K : Value → World → Prop) (B1 : List Value → World → Prop) (t2 t4 t5 t25 t26 : Value) (w : World) : Prop :=
  s83_p3 K B1 t2 t4 t5 t26 t25 t26 w
def s83_p4_den (K : Value → World → Prop) (M1 : (Nat → Value) → World → Prop) : (Nat → Value) → World → Prop := denL Tryz.prog [(cd (Tryz.f83.body.getD .skip) [1, 1, 1, 1, 1, 1, 1, 1, 1, 0, 1, 0, 0, 1, 1, 0, 0, 0])] (s83_p3_den K M1) (fun i => (bif Nat.beq i 1 then (s83_p2_den K M1) else (bif Nat.beq i 0 then (s83_p1_den K) else (fun _ _ => False)))) (s83_R K)
theorem s83_p4_ok (K : Value → World → Prop) (B1 : List Value → World → Prop) (s : Nat → Value) (w : World) (h : s83_p4 K B1 (s 2) (s 4) (s 5) (s 25) (s 26) w) : Tr (s83_p4_den K (fun s w => B1 [s 2, s 4, s 5, s 25, s 26] w) s w) :=
  tr_simple (P := Tryz.prog) (codes := [(cd (Tryz.f83.body.getD .skip) [1, 1, 1, 1, 1, 1, 1, 1, 1, 0, 1, 0, 0, 1, 1, 0, 0, 0])]) (N := (fun s w => s83_p3 K B1 (s 2) (s 4) (s 5) (s 6) (s 25) (s 26) w)) (N' := (s83_p3_den K (fun s w => B1 [s 2, s 4, s 5, s 25, s 26] w))) (X := (fun i => (bif Nat.beq i 1 then (fun s w => s83_p2 K B1 (s 2) (s 4) (s 5) (s 25) (s 26) w) else (bif Nat.beq i 0 then (fun s w => s83_p1 K (s 2) (s 4) (s 5) w) else (fun _ _ => False))))) (X' := (fun i => (bif Nat.beq i 1 then (s83_p2_den K (fun s w => B1 [s 2, s 4, s 5, s 25, s 26] w)) else (bif Nat.beq i 0 then (s83_p1_den K) else (fun _ _ => False))))) (R := s83_R K) (s := s) (w := w) (p := s83_p4 K B1 (s 2) (s 4) (s 5) (s 25) (s 26) w) (q := s83_p4_den K (fun s w => B1 [s 2, s 4, s 5, s 25, s 26] w) s w) (fun s w h => s83_p3_ok K B1 s w @h) (fun i => (tr_bif (fun s w h => s83_p2_ok K B1 s w @h) (tr_bif (fun s w h => s83_p1_ok K s w @h) tr_id))) (by kernel_rfl) (by kernel_rfl) @h
def s83_p5 (K : Value → World → Prop) (B1 : List Value → World → Prop) (t2 t4 t5 t25 t26 : Value) (w : World) : Prop :=
  boI .lss t26 t25 (fun t27 w =>
  ifb t27
  (s83_p4 K B1 t2 t4 t5 t25 t26 w)
  (s83_p1 K t2 t4 t5 w)) w
def s83_p5_den (K : Value → World → Prop) (M1 : (Nat → Value) → World → Prop) : (Nat → Value) → World → Prop := denL Tryz.prog [(cd (Tryz.f83.body.getD .skip) [1, 1, 1, 1, 1, 1, 1, 1, 1, 0, 1, 0, 0, 0]), (cd (Tryz.f83.body.getD .skip) [1, 1, 1, 1, 1, 1, 1, 1, 1, 0, 1, 0, 0, 1, 0])] (s83_p4_den K M1) (fun i => (bif Nat.beq i 0 then (s83_p1_den K) else (fun _ _ => False))) (s83_R K)
theorem s83_p5_ok (K : Value → World → Prop) (B1 : List Value → World → Prop) (s : Nat → Value) (w : World) (h : s83_p5 K B1 (s 2) (s 4) (s 5) (s 25) (s 26) w) : Tr (s83_p5_den K (fun s w => B1 [s 2, s 4, s 5, s 25, s 26] w) s w) :=
  tr_simple (P := Tryz.prog) (codes := [(cd (Tryz.f83.body.getD .skip) [1, 1, 1, 1, 1, 1, 1, 1, 1, 0, 1, 0, 0, 0]), (cd (Tryz.f83.body.getD .skip) [1, 1, 1, 1, 1, 1, 1, 1, 1, 0, 1, 0, 0, 1, 0])]) (N := (fun s w => s83_p4 K B1 (s 2) (s 4) (s 5) (s 25) (s 26) w)) (N' := (s83_p4_den K (fun s w => B1 [s 2, s 4, s 5, s 25, s 26] w))) (X := (fun i => (bif Nat.beq i 0 then (fun s w => s83_p1 K (s 2) (s 4) (s 5) w) else (fun _ _ => False)))) (X' := (fun i => (bif Nat.beq i 0 then (s83_p1_den K) else (fun _ _ => False)))) (R := s83_R K) (s := s) (w := w) (p := s83_p5 K B1 (s 2) (s 4) (s 5) (s 25) (s 26) w) (q := s83_p5_den K (fun s w => B1 [s 2, s 4, s 5, s 25, s 26] w) s w) (fun s w h => s83_p4_ok K B1 s w @h) (fun i => (tr_bif (fun s w h => s83_p1_ok K s w @h) tr_id)) (by kernel_rfl) (by kernel_rfl) @h
def s83_p6_F (K : Value → World → Prop) (B1 : List Value → World → Prop) (l : List Value) (w : World) : Prop :=
  match l with
  | [t2, t4, t5, t25, t26] => s83_p5 K B1 t2 t4 t5 t25 t26 w
  | _ => False
theorem s83_p6_Fe {K : Value → World → Prop} {B1 : List Value → World → Prop} {t2 t4 t5 t25 t26 : Value} {w : World} : s83_p6_F K B1 [t2, t4, t5, t25, t26] w = s83_p5 K B1 t2 t4 t5 t25 t26 w := by kernel_rfl
def s83_p6 (K : Value → World → Prop) (t2 t4 t5 t25 t26 : Value) (w : World) : Prop :=
  LoopL (s83_p6_F K) [t2, t4, t5, t25, t26] w
def s83_p6_den (K : Value → World → Prop) : (Nat → Value) → World → Prop := fun s w => LoopP (fun M1 s w => s83_p5_den K M1 s w) s w
theorem s83_p6_ok (K : Value → World → Prop) (s : Nat → Value) (w : World) (h : s83_p6 K (s 2) (s 4) (s 5) (s 25) (s 26) w) : Tr (s83_p6_den K s w) :=
  tr_loop (G := fun N' s w => s83_p5_den K N' s w) (F := s83_p6_F K) (sel := fun s => [s 2, s 4, s 5, s 25, s 26]) (s := s) (w := w) (p := s83_p6 K (s 2) (s 4) (s 5) (s 25) (s 26) w) (q := s83_p6_den K s w) (fun B s w h => s83_p5_ok K B s w @h) (by kernel_rfl) (by kernel_rfl) @h
def s83_p7 (K : Value → World → Prop) (t0 : Value) (w : World) : Prop :=
  nw 141 #[(.int .i64 0), (.int .i64 0), (.int .i64 0), (.slice none 0 0), (.slice none 0 0)] (fun t2 w =>
  bdq [(.slice none 0 0), (.int .i64 0), (.bool false)] [(some (0, 1), t0)] (fun t8 w =>
  nw 99 #[(.slice none 0 0), (.int .i64 0), (.bool false)] (fun t4 w =>
  stn 3 t4 t8 (fun w =>
  cl Tryz.prog 38 #[t4] (fun t9 w =>
  boI .neq t9 (.int .u8 1) (fun t10 w =>
  ifb t10
  (bdq [(.int .i64 0), (.int .i64 0), (.int .i64 0), (.slice none 0 0), (.slice none 0 0)] [] (fun t11 w =>
  stn 5 t2 t11 (fun w =>
  ldn 5 t2 (fun r0 _ =>
  K (.tuple #[r0, (.bool false)]) w) w) w) w)
  (nw 141 #[(.int .i64 0), (.int .i64 0), (.int .i64 0), (.slice none 0 0), (.slice none 0 0)] (fun t5 w =>
  cl Tryz.prog 39 #[t4] (fun t12 w =>
  fd 0 t5 (fun t13 w =>
  st1 t13 t12 (fun w =>
  cl Tryz.prog 39 #[t4] (fun t14 w =>
  fd 1 t5 (fun t15 w =>
  st1 t15 t14 (fun w =>
  cl Tryz.prog 39 #[t4] (fun t16 w =>
  fd 2 t5 (fun t17 w =>
  st1 t17 t16 (fun w =>
  cl Tryz.prog 46 #[t4] (fun t18 w =>
  fd 3 t5 (fun t19 w =>
  st1 t19 t18 (fun w =>
  cl Tryz.prog 74 #[t4, (.int .i64 1)] (fun t20 w =>
  mks 43 [(.slice none 0 0)] 24 t20 t20 (fun t21 w =>
  fd 4 t5 (fun t22 w =>
  st1 t22 t21 (fun w =>
  fd 4 t5 (fun t23 w =>
  ld1 t23 (fun t24 w =>
  lnS t24 (fun t25 w =>
  s83_p6 K t2 t4 t5 t25 (.int .i64 0) w) w) w) w) w) w) w) w) w) w) w) w) w) w) w) w) w) w) w) w) w)) w) w) w) w) w) w
def s83_p7_den (K : Value → World → Prop) : (Nat → Value) → World → Prop := denL Tryz.prog [(cd (Tryz.f83.body.getD .skip) [0]), (cd (Tryz.f83.body.getD .skip) [1, 0]), (cd (Tryz.f83.body.getD .skip) [1, 1, 0, 0]), (cd (Tryz.f83.body.getD .skip) [1, 1, 0, 1]), (cd (Tryz.f83.body.getD .skip) [1, 1, 1, 0]), (cd (Tryz.f83.body.getD .skip) [1, 1, 1, 1, 0]), (cd (Tryz.f83.body.getD .skip) [1, 1, 1, 1, 1, 0]), (cd (Tryz.f83.body.getD .skip) [1, 1, 1, 1, 1, 1, 0]), (cd (Tryz.f83.body.getD .skip) [1, 1, 1, 1, 1, 1, 1, 0]), (cd (Tryz.f83.body.getD .skip) [1, 1, 1, 1, 1, 1, 1, 1, 0]), (cd (Tryz.f83.body.getD .skip) [1, 1, 1, 1, 1, 1, 1, 1, 1, 0, 0])] (s83_p6_den K) (fun i => (fun _ _ => False)) (s83_R K)
theorem s83_p7_ok (K : Value → World → Prop) (s : Nat → Value) (w : World) (h : s83_p7 K (s 0) w) : Tr (s83_p7_den K s w) :=
  tr_simple (P := Tryz.prog) (codes := [(cd (Tryz.f83.body.getD .skip) [0]), (cd (Tryz.f83.body.getD .skip) [1, 0]), (cd (Tryz.f83.body.getD .skip) [1, 1, 0, 0]), (cd (Tryz.f83.body.getD .skip) [1, 1, 0, 1]), (cd (Tryz.f83.body.getD .skip) [1, 1, 1, 0]), (cd (Tryz.f83.body.getD .skip) [1, 1, 1, 1, 0]), (cd (Tryz.f83.body.getD .skip) [1, 1, 1, 1, 1, 0]), (cd (Tryz.f83.body.getD .skip) [1, 1, 1, 1, 1, 1, 0]), (cd (Tryz.f83.body.getD .skip) [1, 1, 1, 1, 1, 1, 1, 0]), (cd (Tryz.f83.body.getD .skip) [1, 1, 1, 1, 1, 1, 1, 1, 0]), (cd (Tryz.f83.body.getD .skip) [1, 1, 1, 1, 1, 1, 1, 1, 1, 0, 0])]) (N := (fun s w => s83_p6 K (s 2) (s 4) (s 5) (s 25) (s 26) w)) (N' := (s83_p6_den K)) (X := (fun i => (fun _ _ => False))) (X' := (fun i => (fun _ _ => False))) (R := s83_R K) (s := s) (w := w) (p := s83_p7 K (s 0) w) (q := s83_p7_den K s w) (fun s w h => s83_p6_ok K s w @h) (fun i => tr_id) (by kernel_rfl) (by kernel_rfl) @h
/-- the call, from the text -/
theorem c83 (t0 : Value) {K : Value → World → Prop} {w : World} (h : s83_p7 K t0 w) : cl Tryz.prog 83 #[t0] K w :=
  calls_of_tr (c := (Tryz.f83.body.getD .skip)) (fn := Tryz.f83) (q := s83_p7_den K (st0 #[t0]) w) Tryz.func83 (by kernel_rfl) (by kernel_rfl) (Nat.le_of_ble_eq_true (by kernel_rfl)) (by kernel_rfl) (by kernel_rfl) (s83_p7_ok K (st0 #[t0]) w @h)

/-! ### function 54 : (*e2e.engine.Engine).restore -/
def s54_R (K : Value → World → Prop) (s : Nat → Value) (w : World) : Prop := retv Tryz.prog s Tryz.f54.results.toList (fun vs => K (pack vs) w) w
def s54_p1 (K : Value → World → Prop) (w : World) : Prop :=
  K (.bool true) w
def s54_p1_den (K : Value → World → Prop) : (Nat → Value) → World → Prop := denL Tryz.prog [(cd (Tryz.f54.body.getD .skip) [1, 1, 1, 1, 1, 1, 0]), (cd (Tryz.f54.body.getD .skip) [1, 1, 1, 1, 1, 1, 1])] (fun _ _ => False) (fun i => (fun _ _ => False)) (s54_R K)
theorem s54_p1_ok (K : Value → World → Prop) (s : Nat → Value) (w : World) (h : s54_p1 K w) : Tr (s54_p1_den K s w) :=
  tr_simple (P := Tryz.prog) (codes := [(cd (Tryz.f54.body.getD .skip) [1, 1, 1, 1, 1, 1, 0]), (cd (Tryz.f54.body.getD .skip) [1, 1, 1, 1, 1, 1, 1])]) (N := (fun _ _ => False)) (N' := (fun _ _ => False)) (X := (fun i => (fun _ _ => False))) (X' := (fun i => (fun _ _ => False))) (R := s54_R K) (s := s) (w := w) (p := s54_p1 K w) (q := s54_p1_den K s w) tr_id (fun i => tr_id) (by kernel_rfl) (by kernel_rfl) @h
def s54_p2_d (K : Value → World → Prop) (t0 t5 : Value) (w0 w : World) : Prop :=
  nck t0 (fun t45 _ =>
  fd 0 t45 (fun t46 _ =>
  ldn 14 t46 (fun t47 _ =>
  fd 4 t5 (fun t48 _ =>
  ld1 t48 (fun t49 _ =>
  nck t0 (fun t51 _ =>
  fd 16 t51 (fun t52 _ =>
  cl Tryz.prog 85 #[t47, t49] (fun t50 w =>
  st1 t52 t50 (fun w =>
  s54_p1 K w) w) w) w0) w0) w0) w0) w0) w0) w0
def s54_p2 (K : Value → World → Prop) (t0 t5 : Value) (w : World) : Prop := s54_p2_d K t0 t5 (drw w) (drw w)
def s54_p2_den (K : Value → World → Prop) : (Nat → Value) → World → Prop := denL Tryz.prog [(cd (Tryz.f54.body.getD .skip) [1, 1, 1, 1, 1, 0])] (s54_p1_den K) (fun i => (fun _ _ => False)) (s54_R K)
theorem s54_p2_ok (K : Value → World → Prop) (s : Nat → Value) (w : World) (h : s54_p2 K (s 0) (s 5) w) : Tr (s54_p2_den K s w) :=
  tr_draw (P := Tryz.prog) (ops := (ro (cd (Tryz.f54.body.getD .skip) [1, 1, 1, 1, 1, 0]))) (ms := [0, 0, 2, 6, 14, 0, 32, 126, 255, 511, 1023]) (cs := [0, 1, 2, 3, 4, 5, 6, 8, 9]) (N := (fun s w => s54_p1 K w)) (N' := (s54_p1_den K)) (s := s) (w := w) (p := s54_p2 K (s 0) (s 5) w) (q := s54_p2_den K s w) (by kernel_rfl) (by kernel_rfl) (fun s w h => s54_p1_ok K s w @h) (by kernel_rfl) (by kernel_rfl) @h
def s54_p3_d (K : Value → World → Prop) (t0 t5 : Value) (w0 w : World) : Prop :=
  nck t0 (fun t35 _ =>
  fd 0 t35 (fun t36 _ =>
  ldn 14 t36 (fun t37 _ =>
  fd 3 t5 (fun t38 _ =>
  ld1 t38 (fun t39 _ =>
  nck t0 (fun t41 _ =>
  fd 15 t41 (fun t42 _ =>
  cl Tryz.prog 84 #[t37, t39] (fun t40 w =>
  st1 t42 t40 (fun w =>
  s54_p2 K t0 t5 w) w) w) w0) w0) w0) w0) w0) w0) w0
def s54_p3 (K : Value → World → Prop) (t0 t5 : Value) (w : World) : Prop := s54_p3_d K t0 t5 (drw w) (drw w)
def s54_p3_den (K : Value → World → Prop) : (Nat → Value) → World → Prop := denL Tryz.prog [(cd (Tryz.f54.body.getD .skip) [1, 1, 1, 1, 0])] (s54_p2_den K) (fun i => (fun _ _ => False)) (s54_R K)
theorem s54_p3_ok (K : Value → World → Prop) (s : Nat → Value) (w : World) (h : s54_p3 K (s 0) (s 5) w) : Tr (s54_p3_den K s w) :=
  tr_draw (P := Tryz.prog) (ops := (ro (cd (Tryz.f54.body.getD .skip) [1, 1, 1, 1, 0]))) (ms := [0, 0, 2, 6, 14, 0, 32, 126, 255, 511, 1023]) (cs := [0, 1, 2, 3, 4, 5, 6, 8, 9]) (N := (fun s w => s54_p2 K (s 0) (s 5) w)) (N' := (s54_p2_den K)) (s := s) (w := w) (p := s54_p3 K (s 0) (s 5) w) (q := s54_p3_den K s w) (by kernel_rfl) (by kernel_rfl) (fun s w h => s54_p2_ok K s w @h) (by kernel_rfl) (by kernel_rfl) @h
def s54_p4_d (K : Value → World → Prop) (t0 t5 : Value) (w0 w : World) : Prop :=
  fd 1 t5 (fun t25 _ =>
  fd 2 t5 (fun t27 _ =>
  nck t0 (fun t29 _ =>
  fd 18 t29 (fun t30 _ =>
  nck t0 (fun t31 _ =>
  fd 14 t31 (fun t32 _ =>
  (ld1 t25 (fun t26 w =>
  (ld1 t27 (fun t28 w =>
  st1 t30 t26 (fun w =>
  st1 t32 t28 (fun w =>
  s54_p3 K t0 t5 w) w) w) w) ∧
  (st1 t30 t26 (fun w =>
  ld1 t27 (fun t28_2 w =>
  st1 t32 t28_2 (fun w =>
  s54_p3 K t0 t5 w) w) w) w)) w) ∧
  (ld1 t27 (fun t28_3 w =>
  ld1 t25 (fun t26_2 w =>
  st1 t30 t26_2 (fun w =>
  st1 t32 t28_3 (fun w =>
  s54_p3 K t0 t5 w) w) w) w) w)) w0) w0) w0) w0) w0) w0
def s54_p4 (K : Value → World → Prop) (t0 t5 : Value) (w : World) : Prop := s54_p4_d K t0 t5 (drw w) (drw w)
def s54_p4_den (K : Value → World → Prop) : (Nat → Value) → World → Prop := denL Tryz.prog [(cd (Tryz.f54.body.getD .skip) [1, 1, 1, 0])] (s54_p3_den K) (fun i => (fun _ _ => False)) (s54_R K)
theorem s54_p4_ok (K : Value → World → Prop) (s : Nat → Value) (w : World) (h : s54_p4 K (s 0) (s 5) w) : Tr (s54_p4_den K s w) :=
  tr_draw (P := Tryz.prog) (ops := (ro (cd (Tryz.f54.body.getD .skip) [1, 1, 1, 0]))) (ms := [0, 0, 0, 4, 0, 16, 13, 77, 205, 511, 1023, 2047]) (cs := [0, 1, 2, 4, 6, 7, 9, 10]) (N := (fun s w => s54_p3 K (s 0) (s 5) w)) (N' := (s54_p3_den K)) (s := s) (w := w) (p := s54_p4 K (s 0) (s 5) w) (q := s54_p4_den K s w) (by kernel_rfl) (by kernel_rfl) (fun s w h => s54_p3_ok K s w @h) (by kernel_rfl) (by kernel_rfl) @h
def s54_p5 (K : Value → World → Prop) (t0 t5 t22 : Value) (w : World) : Prop :=
  ifb t22
  (K (.bool false) w)
  (s54_p4 K t0 t5 w)
def s54_p5_den (K : Value → World → Prop) : (Nat → Value) → World → Prop := denL Tryz.prog [(cd (Tryz.f54.body.getD .skip) [1, 1, 0, 1])] (s54_p4_den K) (fun i => (fun _ _ => False)) (s54_R K)
theorem s54_p5_ok (K : Value → World → Prop) (s : Nat → Value) (w : World) (h : s54_p5 K (s 0) (s 5) (s 22) w) : Tr (s54_p5_den K s w) :=
  tr_simple (P := Tryz.prog) (codes := [(cd (Tryz.f54.body.getD .skip) [1, 1, 0, 1])]) (N := (fun s w => s54_p4 K (s 0) (s 5) w)) (N' := (s54_p4_den K)) (X := (fun i => (fun _ _ => False))) (X' := (fun i => (fun _ _ => False))) (R := s54_R K) (s := s) (w := w) (p := s54_p5 K (s 0) (s 5) (s 22) w) (q := s54_p5_den K s w) (fun s w h => s54_p4_ok K s w @h) (fun i => tr_id) (by kernel_rfl) (by kernel_rfl) @h
def s54_p6_d (K : Value → World → Prop) (t0 t5 t6 : Value) (w0 w : World) : Prop :=
  un .not t6 (fun t13 _ =>
  gd t13 false (fun K w => K t0 w) (fun t15 _ =>
  gd t13 false (nck t15) (fun t16 _ =>
  gd t13 false (fd 0 t16) (fun t17 _ =>
  gd t13 false (ldn 14 t17) (fun t18 _ =>
  gd t13 false (ldn 5 t5) (fun t19 _ =>
  gd t13 false (cl Tryz.prog 71 #[t18, t19]) (fun t20 w =>
  gd t13 false (un .not t20) (fun t21 w =>
  pk t13 (.bool true) t21 (fun t22 w =>
  s54_p5 K t0 t5 t22 w) w) w) w) w0) w0) w0) w0) w0) w0
def s54_p6 (K : Value → World → Prop) (t0 t5 t6 : Value) (w : World) : Prop := s54_p6_d K t0 t5 t6 (drw w) (drw w)
def s54_p6_den (K : Value → World → Prop) : (Nat → Value) → World → Prop := denL Tryz.prog [(cd (Tryz.f54.body.getD .skip) [1, 1, 0, 0])] (s54_p5_den K) (fun i => (fun _ _ => False)) (s54_R K)
theorem s54_p6_ok (K : Value → World → Prop) (s : Nat → Value) (w : World) (h : s54_p6 K (s 0) (s 5) (s 6) w) : Tr (s54_p6_den K s w) :=
  tr_draw (P := Tryz.prog) (ops := (ro (cd (Tryz.f54.body.getD .skip) [1, 1, 0, 0]))) (ms := [0, 1, 3, 7, 15, 31, 63, 7, 255, 511, 1023]) (cs := [0, 1, 2, 3, 4, 5, 6, 7]) (N := (fun s w => s54_p5 K (s 0) (s 5) (s 22) w)) (N' := (s54_p5_den K)) (s := s) (w := w) (p := s54_p6 K (s 0) (s 5) (s 6) w) (q := s54_p6_den K s w) (by kernel_rfl) (by kernel_rfl) (fun s w h => s54_p5_ok K s w @h) (by kernel_rfl) (by kernel_rfl) @h
def s54_p7 (K : Value → World → Prop) (t0 t1 : Value) (w : World) : Prop :=
  cl Tryz.prog 83 #[t1] (fun t9 w =>
  exq t9 0 (fun t10 w =>
  exq t9 1 (fun t11 w =>
  nw 141 #[(.int .i64 0), (.int .i64 0), (.int .i64 0), (.slice none 0 0), (.slice none 0 0)] (fun t5 w =>
  stn 5 t5 t10 (fun w =>
  s54_p6 K t0 t5 t11 w) w) w) w) w) w
def s54_p7_den (K : Value → World → Prop) : (Nat → Value) → World → Prop := denL Tryz.prog [(cd (Tryz.f54.body.getD .skip) [0]), (cd (Tryz.f54.body.getD .skip) [1, 0])] (s54_p6_den K) (fun i => (fun _ _ => False)) (s54_R K)
theorem s54_p7_ok (K : Value → World → Prop) (s : Nat → Value) (w : World) (h : s54_p7 K (s 0) (s 1) w) : Tr (s54_p7_den K s w) :=
  tr_simple (P := Tryz.prog) (codes := [(cd (Tryz.f54.body.getD .skip) [0]), (cd (Tryz.f54.body.getD .skip) [1, 0])]) (N := (fun s w => s54_p6 K (s 0) (s 5) (s 6) w)) (N' := (s54_p6_den K)) (X := (fun i => (fun _ _ => False))) (X' := (fun i => (fun _ _ => False))) (R := s54_R K) (s := s) (w := w) (p := s54_p7 K (s 0) (s 1) w) (q := s54_p7_den K s w) (fun s w h => s54_p6_ok K s w @h) (fun i => tr_id) (by kernel_rfl) (by kernel_rfl) @h
/-- the call, from the text -/
theorem c54 (t0 t1 : Value) {K : Value → World → Prop} {w : World} (h : s54_p7 K t0 t1 w) : cl Tryz.prog 54 #[t0, t1] K w :=
  calls_of_tr (c := (Tryz.f54.body.getD .skip)) (fn := Tryz.f54) (q := s54_p7_den K (st0 #[t0, t1]) w) Tryz.func54 (by kernel_rfl) (by kernel_rfl) (Nat.le_of_ble_eq_true (by kernel_rfl)) (by kernel_rfl) (by kernel_rfl) (s54_p7_ok K (st0 #[t0, t1]) w @h)

/-! ### function 36 : (*e2e.engine.Engine).Audit -/
def s36_R (K : Value → World → Prop) (s : Nat → Value) (w : World) : Prop := retv Tryz.prog s Tryz.f36.results.toList (fun vs => K (pack vs) w) w
def s36_p1 (K : Value → World → Prop) (t2 : Value) (w : World) : Prop :=
  K t2 w
def s36_p1_den (K : Value → World → Prop) : (Nat → Value) → World → Prop := denL Tryz.prog [(cd (Tryz.f36.body.getD .skip) [1, 1])] (fun _ _ => False) (fun i => (fun _ _ => False)) (s36_R K)
theorem s36_p1_ok (K : Value → World → Prop) (s : Nat → Value) (w : World) (h : s36_p1 K (s 2) w) : Tr (s36_p1_den K s w) :=
  tr_simple (P := Tryz.prog) (codes := [(cd (Tryz.f36.body.getD .skip) [1, 1])]) (N := (fun _ _ => False)) (N' := (fun _ _ => False)) (X := (fun i => (fun _ _ => False))) (X' := (fun i => (fun _ _ => False))) (R := s36_R K) (s := s) (w := w) (p := s36_p1 K (s 2) w) (q := s36_p1_den K s w) tr_id (fun i => tr_id) (by kernel_rfl) (by kernel_rfl) @h
def s36_p2_d (K : Value → World → Prop) (t0 : Value) (w0 w : World) : Prop :=
  nck t0 (fun t4 _ =>
  fd 0 t4 (fun t5 _ =>
  ldn 14 t5 (fun t6 _ =>
  cl Tryz.prog 72 #[t0] (fun t8 w =>
  Below w0.heap.size w0 w ∧
  cl Tryz.prog 71 #[t6, t8] (fun t9 w =>
  s36_p1 K t9 w) w) w) w0) w0) w0
def s36_p2 (K : Value → World → Prop) (t0 : Value) (w : World) : Prop := s36_p2_d K t0 (drw w) (drw w)
def s36_p2_den (K : Value → World → Prop) : (Nat → Value) → World → Prop := denL Tryz.prog [(cd (Tryz.f36.body.getD .skip) [1, 0])] (s36_p1_den K) (fun i => (fun _ _ => False)) (s36_R K)
theorem s36_p2_ok (K : Value → World → Prop) (s : Nat → Value) (w : World) (h : s36_p2 K (s 0) w) : Tr (s36_p2_den K s w) :=
  tr_draw (P := Tryz.prog) (ops := (ro (cd (Tryz.f36.body.getD .skip) [1, 0]))) (ms := [0, 1, 3, 7, 0, 16, 63, 127]) (cs := [0, 1, 2, 3, 4]) (N := (fun s w => s36_p1 K (s 2) w)) (N' := (s36_p1_den K)) (s := s) (w := w) (p := s36_p2 K (s 0) w) (q := s36_p2_den K s w) (by kernel_rfl) (by kernel_rfl) (fun s w h => s36_p1_ok K s w @h) (by kernel_rfl) (by kernel_rfl) @h
def s36_p3 (K : Value → World → Prop) (t0 : Value) (w : World) : Prop :=
  s36_p2 K t0 w
def s36_p3_den (K : Value → World → Prop) : (Nat → Value) → World → Prop := denL Tryz.prog [(cd (Tryz.f36.body.getD .skip) [0])] (s36_p2_den K) (fun i => (fun _ _ => False)) (s36_R K)
theorem s36_p3_ok (K : Value → World → Prop) (s : Nat → Value) (w : World) (h : s36_p3 K (s 0) w) : Tr (s36_p3_den K s w) :=
  tr_simple (P := Tryz.prog) (codes := [(cd (Tryz.f36.body.getD .skip) [0])]) (N := (fun s w => s36_p2 K (s 0) w)) (N' := (s36_p2_den K)) (X := (fun i => (fun _ _ => False))) (X' := (fun i => (fun _ _ => False))) (R := s36_R K) (s := s) (w := w) (p := s36_p3 K (s 0) w) (q := s36_p3_den K s w) (fun s w h => s36_p2_ok K s w @h) (fun i => tr_id) (by kernel_rfl) (by kernel_rfl) @h
/-- the call, from the text -/
theorem c36 (t0 : Value) {K : Value → World → Prop} {w : World} (h : s36_p3 K t0 w) : cl Tryz.prog 36 #[t0] K w :=
  calls_of_tr (c := (Tryz.f36.body.getD .skip)) (fn := Tryz.f36) (q := s36_p3_den K (st0 #[t0]) w) Tryz.func36 (by kernel_rfl) (by kernel_rfl) (Nat.le_of_ble_eq_true (by kernel_rfl)) (by kernel_rfl) (by kernel_rfl) (s36_p3_ok K (st0 #[t0]) w @h)

/-! ### function 71 : e2e.engine.checkImage -/
def s71_R (K : Value → World → Prop) (s : Nat → Value) (w : World) : Prop := retv Tryz.prog s Tryz.f71.results.toList (fun vs => K (pack vs) w) w
def s71_p1 (K : Value → World → Prop) (t2 t3 : Value) (w : World) : Prop :=
  ldn 14 t2 (fun t56 w =>
  ldn 5 t3 (fun t57 w =>
  cl Tryz.prog 107 #[t56, t57] (fun t58 w =>
  gd t58 true (ldn 14 t2) (fun t60 w =>
  gd t58 true (fd 3 t3) (fun t61 w =>
  gd t58 true (ld1 t61) (fun t62 w =>
  gd t58 true (cl Tryz.prog 108 #[t60, t62]) (fun t63 w =>
  pk t58 t63 (.bool false) (fun t64 w =>
  K t64 w) w) w) w) w) w) w) w) w
def s71_p1_den (K : Value → World → Prop) : (Nat → Value) → World → Prop := denL Tryz.prog [(cd (Tryz.f71.body.getD .skip) [1, 1, 1, 1, 1, 0]), (cd (Tryz.f71.body.getD .skip) [1, 1, 1, 1, 1, 1])] (fun _ _ => False) (fun i => (fun _ _ => False)) (s71_R K)
theorem s71_p1_ok (K : Value → World → Prop) (s : Nat → Value) (w : World) (h : s71_p1 K (s 2) (s 3) w) : Tr (s71_p1_den K s w) :=
  tr_simple (P := Tryz.prog) (codes := [(cd (Tryz.f71.body.getD .skip) [1, 1, 1, 1, 1, 0]), (cd (Tryz.f71.body.getD .skip) [1, 1, 1, 1, 1, 1])]) (N := (fun _ _ => False)) (N' := (fun _ _ => False)) (X := (fun i => (fun _ _ => False))) (X' := (fun i => (fun _ _ => False))) (R := s71_R K) (s := s) (w := w) (p := s71_p1 K (s 2) (s 3) w) (q := s71_p1_den K s w) tr_id (fun i => tr_id) (by kernel_rfl) (by kernel_rfl) @h
def s71_p2 (K : Value → World → Prop) (B1 : List Value → World → Prop) (t2 t3 t35 t36 t37 : Value) (w : World) : Prop :=
  boI .lss t37 t36 (fun t38 w =>
  ifb t38
  (ixs 7 t35 t37 (fun t40 w =>
  ldn 7 t40 (fun t41 w =>
  nw 66 #[(.int .i64 0), (.int .i64 0), (.int .i64 0), (.int .i64 0), (.int .i64 0), (.int .i64 0), (.slice none 0 0)] (fun t6 w =>
  stn 7 t6 t41 (fun w =>
  fd 0 t6 (fun t42 w =>
  ld1 t42 (fun t43 w =>
  boI .add t37 (.int .i64 1) (fun t45 w =>
  boI .neq t43 t45 (fun t46 w =>
  gd t46 false (ldn 14 t2) (fun t48 w =>
  gd t46 false (fd 2 t3) (fun t49 w =>
  gd t46 false (ld1 t49) (fun t50 w =>
  gd t46 false (ldn 7 t6) (fun t51 w =>
  gd t46 false (cl Tryz.prog 106 #[t48, t50, t51]) (fun t52 w =>
  gd t46 false (un .not t52) (fun t53 w =>
  pk t46 (.bool true) t53 (fun t54 w =>
  ifb t54
  (K (.bool false) w)
  (boI .add t37 (.int .i64 1) (fun t55 w =>
  B1 [t2, t3, t35, t36, t55] w) w)) w) w) w) w) w) w) w) w) w) w) w) w) w) w) w)
  (s71_p1 K t2 t3 w)) w
def s71_p2_den (K : Value → World → Prop) (M1 : (Nat → Value) → World → Prop) : (Nat → Value) → World → Prop := denL Tryz.prog [(cd (Tryz.f71.body.getD .skip) [1, 1, 1, 1, 0, 1, 0, 0, 0]), (cd (Tryz.f71.body.getD .skip) [1, 1, 1, 1, 0, 1, 0, 0, 1, 0]), (cd (Tryz.f71.body.getD .skip) [1, 1, 1, 1, 0, 1, 0, 0, 1, 1, 0]), (cd (Tryz.f71.body.getD .skip) [1, 1, 1, 1, 0, 1, 0, 0, 1, 1, 1])] M1 (fun i => (bif Nat.beq i 0 then (s71_p1_den K) else (fun _ _ => False))) (s71_R K)
theorem s71_p2_ok (K : Value → World → Prop) (B1 : List Value → World → Prop) (s : Nat → Value) (w : World) (h : s71_p2 K B1 (s 2) (s 3) (s 35) (s 36) (s 37) w) : Tr (s71_p2_den K (fun s w => B1 [s 2, s 3, s 35, s 36, s 37] w) s w) :=
  tr_simple (P := Tryz.prog) (codes := [(cd (Tryz.f71.body.getD .skip) [1, 1, 1, 1, 0, 1, 0, 0, 0]), (cd (Tryz.f71.body.getD .skip) [1, 1, 1, 1, 0, 1, 0, 0, 1, 0]), (cd (Tryz.f71.body.getD .skip) [1, 1, 1, 1, 0, 1, 0, 0, 1, 1, 0]), (cd (Tryz.f71.body.getD .skip) [1, 1, 1, 1, 0, 1, 0, 0, 1, 1, 1])]) (N := (fun s w => B1 [s 2, s 3, s 35, s 36, s 37] w)) (N' := (fun s w => B1 [s 2, s 3, s 35, s 36, s 37] w)) (X := (fun i => (bif Nat.beq i 0 then (fun s w => s71_p1 K (s 2) (s 3) w) else (fun _ _ => False)))) (X' := (fun i => (bif Nat.beq i 0 then (s71_p1_den K) else (fun _ _ => False)))) (R := s71_R K) (s := s) (w := w) (p := s71_p2 K B1 (s 2) (s 3) (s 35) (s 36) (s 37) w) (q := s71_p2_den K (fun s w => B1 [s 2, s 3, s 35, s 36, s 37] w) s w) tr_id (fun i => (tr_bif (fun s w h => s71_p1_ok K s w @h) tr_id)) (by kernel_rfl) (by kernel_rfl) @h
def s71_p3_F (K : Value → World → Prop) (B1 : List Value → World → Prop) (l : List Value) (w : World) : Prop :=
  match l with
  | [t2, t3, t35, t36, t37] => s71_p2 K B1 t2 t3 t35 t36 t37 w
  | _ => False
theorem s71_p3_Fe {K : Value → World → Prop} {B1 : List Value → World → Prop} {t2 t3 t35 t36 t37 : Value} {w : World} : s71_p3_F K B1 [t2, t3, t35, t36, t37] w = s71_p2 K B1 t2 t3 t35 t36 t37 w := by kernel_rfl
def s71_p3 (K : Value → World → Prop) (t2 t3 t35 t36 t37 : Value) (w : World) : Prop :=
  LoopL (s71_p3_F K) [t2, t3, t35, t36, t37] w
def s71_p3_den (K : Value → World → Prop) : (Nat → Value) → World → Prop := fun s w => LoopP (fun M1 s w => s71_p2_den K M1 s w) s w
theorem s71_p3_ok (K : Value → World → Prop) (s : Nat → Value) (w : World) (h : s71_p3 K (s 2) (s 3) (s 35) (s 36) (s 37) w) : Tr (s71_p3_den K s w) :=
  tr_loop (G := fun N' s w => s71_p2_den K N' s w) (F := s71_p3_F K) (sel := fun s => [s 2, s 3, s 35, s 36, s 37]) (s := s) (w := w) (p := s71_p3 K (s 2) (s 3) (s 35) (s 36) (s 37) w) (q := s71_p3_den K s w) (fun B s w h => s71_p2_ok K B s w @h) (by kernel_rfl) (by kernel_rfl) @h
def s71_p4 (K : Value → World → Prop) (t2 t3 t11 : Value) (w : World) : Prop :=
  ifb t11
  (K (.bool false) w)
  (fd 2 t3 (fun t12 w =>
  ld1 t12 (fun t13 w =>
  fd 3 t2 (fun t14 w =>
  ld1 t14 (fun t15 w =>
  boI .gtr t13 t15 (fun t16 w =>
  gd t16 false (fd 3 t3) (fun t18 w =>
  gd t16 false (ld1 t18) (fun t19 w =>
  gd t16 false (lnS t19) (fun t20 w =>
  gd t16 false (fd 10 t2) (fun t21 w =>
  gd t16 false (ld1 t21) (fun t22 w =>
  gd t16 false (boI .gtr t20 t22) (fun t23 w =>
  pk t16 (.bool true) t23 (fun t24 w =>
  ifb t24
  (K (.bool false) w)
  (fd 1 t3 (fun t25 w =>
  ld1 t25 (fun t26 w =>
  fd 2 t3 (fun t27 w =>
  ld1 t27 (fun t28 w =>
  fd 3 t3 (fun t29 w =>
  ld1 t29 (fun t30 w =>
  lnS t30 (fun t31 w =>
  boI .add t28 t31 (fun t32 w =>
  boI .lss t26 t32 (fun t33 w =>
  ifb t33
  (K (.bool false) w)
  (fd 3 t3 (fun t34 w =>
  ld1 t34 (fun t35 w =>
  lnS t35 (fun t36 w =>
  s71_p3 K t2 t3 t35 t36 (.int .i64 0) w) w) w) w)) w) w) w) w) w) w) w) w) w)) w) w) w) w) w) w) w) w) w) w) w) w)
def s71_p4_den (K : Value → World → Prop) : (Nat → Value) → World → Prop := denL Tryz.prog [(cd (Tryz.f71.body.getD .skip) [1, 0, 1]), (cd (Tryz.f71.body.getD .skip) [1, 1, 0, 0]), (cd (Tryz.f71.body.getD .skip) [1, 1, 0, 1]), (cd (Tryz.f71.body.getD .skip) [1, 1, 1, 0, 0]), (cd (Tryz.f71.body.getD .skip) [1, 1, 1, 0, 1]), (cd (Tryz.f71.body.getD .skip) [1, 1, 1, 1, 0, 0])] (s71_p3_den K) (fun i => (fun _ _ => False)) (s71_R K)
theorem s71_p4_ok (K : Value → World → Prop) (s : Nat → Value) (w : World) (h : s71_p4 K (s 2) (s 3) (s 11) w) : Tr (s71_p4_den K s w) :=
  tr_simple (P := Tryz.prog) (codes := [(cd (Tryz.f71.body.getD .skip) [1, 0, 1]), (cd (Tryz.f71.body.getD .skip) [1, 1, 0, 0]), (cd (Tryz.f71.body.getD .skip) [1, 1, 0, 1]), (cd (Tryz.f71.body.getD .skip) [1, 1, 1, 0, 0]), (cd (Tryz.f71.body.getD .skip) [1, 1, 1, 0, 1]), (cd (Tryz.f71.body.getD .skip) [1, 1, 1, 1, 0, 0])]) (N := (fun s w => s71_p3 K (s 2) (s 3) (s 35) (s 36) (s 37) w)) (N' := (s71_p3_den K)) (X := (fun i => (fun _ _ => False))) (X' := (fun i => (fun _ _ => False))) (R := s71_R K) (s := s) (w := w) (p := s71_p4 K (s 2) (s 3) (s 11) w) (q := s71_p4_den K s w) (fun s w h => s71_p3_ok K s w @h) (fun i => tr_id) (by kernel_rfl) (by kernel_rfl) @h
def s71_p5_d (K : Value → World → Prop) (t2 t3 : Value) (w0 w : World) : Prop :=
  fd 0 t3 (fun t7 _ =>
  ld1 t7 (fun t8 _ =>
  ldn 14 t2 (fun t9 _ =>
  cl Tryz.prog 105 #[t9] (fun t10 w =>
  Below w0.heap.size w0 w ∧
  boI .neq t8 t10 (fun t11 w =>
  s71_p4 K t2 t3 t11 w) w) w) w0) w0) w0
def s71_p5 (K : Value → World → Prop) (t2 t3 : Value) (w : World) : Prop := s71_p5_d K t2 t3 (drw w) (drw w)
def s71_p5_den (K : Value → World → Prop) : (Nat → Value) → World → Prop := denL Tryz.prog [(cd (Tryz.f71.body.getD .skip) [1, 0, 0])] (s71_p4_den K) (fun i => (fun _ _ => False)) (s71_R K)
theorem s71_p5_ok (K : Value → World → Prop) (s : Nat → Value) (w : World) (h : s71_p5 K (s 2) (s 3) w) : Tr (s71_p5_den K s w) :=
  tr_draw (P := Tryz.prog) (ops := (ro (cd (Tryz.f71.body.getD .skip) [1, 0, 0]))) (ms := [0, 1, 0, 4, 15]) (cs := [0, 1, 2]) (N := (fun s w => s71_p4 K (s 2) (s 3) (s 11) w)) (N' := (s71_p4_den K)) (s := s) (w := w) (p := s71_p5 K (s 2) (s 3) w) (q := s71_p5_den K s w) (by kernel_rfl) (by kernel_rfl) (fun s w h => s71_p4_ok K s w @h) (by kernel_rfl) (by kernel_rfl) @h
def s71_p6 (K : Value → World → Prop) (t0 t1 : Value) (w : World) : Prop :=
  nw 75 (t0).cells (fun t2 w =>
  nw 141 (t1).cells (fun t3 w =>
  s71_p5 K t2 t3 w) w) w
def s71_p6_den (K : Value → World → Prop) : (Nat → Value) → World → Prop := denL Tryz.prog [(cd (Tryz.f71.body.getD .skip) [0])] (s71_p5_den K) (fun i => (fun _ _ => False)) (s71_R K)
theorem s71_p6_ok (K : Value → World → Prop) (s : Nat → Value) (w : World) (h : s71_p6 K (s 0) (s 1) w) : Tr (s71_p6_den K s w) :=
  tr_simple (P := Tryz.prog) (codes := [(cd (Tryz.f71.body.getD .skip) [0])]) (N := (fun s w => s71_p5 K (s 2) (s 3) w)) (N' := (s71_p5_den K)) (X := (fun i => (fun _ _ => False))) (X' := (fun i => (fun _ _ => False))) (R := s71_R K) (s := s) (w := w) (p := s71_p6 K (s 0) (s 1) w) (q := s71_p6_den K s w) (fun s w h => s71_p5_ok K s w @h) (fun i => tr_id) (by kernel_rfl) (by kernel_rfl) @h
/-- the call, from the text -/
theorem c71 (t0 t1 : Value) {K : Value → World → Prop} {w : World} (h : s71_p6 K t0 t1 w) : cl Tryz.prog 71 #[t0, t1] K w :=
  calls_of_tr (c := (Tryz.f71.body.getD .skip)) (fn := Tryz.f71) (q := s71_p6_den K (st0 #[t0, t1]) w) Tryz.func71 (by kernel_rfl) (by kernel_rfl) (Nat.le_of_ble_eq_true (by kernel_rfl)) (by kernel_rfl) (by kernel_rfl) (s71_p6_ok K (st0 #[t0, t1]) w @h)

/-! ### function 106 : e2e.engine.checkRecord -/
def s106_R (K : Value → World → Prop) (s : Nat → Value) (w : World) : Prop := retv Tryz.prog s Tryz.f106.results.toList (fun vs => K (pack vs) w) w
def s106_p1 (K : Value → World → Prop) (t1 t3 t5 : Value) (w : World) : Prop :=
  fd 4 t5 (fun t47 w =>
  ld1 t47 (fun t48 w =>
  boI .eql t48 (.int .i64 0) (fun t49 w =>
  ifb t49
  (ldn 14 t3 (fun t50 w =>
  ldn 7 t5 (fun t52 w =>
  cl Tryz.prog 133 #[t50, t1, t52] (fun t53 w =>
  K t53 w) w) w) w)
  (ldn 14 t3 (fun t54 w =>
  ldn 7 t5 (fun t56 w =>
  cl Tryz.prog 134 #[t54, t1, t56] (fun t57 w =>
  K t57 w) w) w) w)) w) w) w
def s106_p1_den (K : Value → World → Prop) : (Nat → Value) → World → Prop := denL Tryz.prog [(cd (Tryz.f106.body.getD .skip) [1, 1, 1, 0, 0]), (cd (Tryz.f106.body.getD .skip) [1, 1, 1, 0, 1]), (cd (Tryz.f106.body.getD .skip) [1, 1, 1, 1, 0]), (cd (Tryz.f106.body.getD .skip) [1, 1, 1, 1, 1])] (fun _ _ => False) (fun i => (fun _ _ => False)) (s106_R K)
theorem s106_p1_ok (K : Value → World → Prop) (s : Nat → Value) (w : World) (h : s106_p1 K (s 1) (s 3) (s 5) w) : Tr (s106_p1_den K s w) :=
  tr_simple (P := Tryz.prog) (codes := [(cd (Tryz.f106.body.getD .skip) [1, 1, 1, 0, 0]), (cd (Tryz.f106.body.getD .skip) [1, 1, 1, 0, 1]), (cd (Tryz.f106.body.getD .skip) [1, 1, 1, 1, 0]), (cd (Tryz.f106.body.getD .skip) [1, 1, 1, 1, 1])]) (N := (fun _ _ => False)) (N' := (fun _ _ => False)) (X := (fun i => (fun _ _ => False))) (X' := (fun i => (fun _ _ => False))) (R := s106_R K) (s := s) (w := w) (p := s106_p1 K (s 1) (s 3) (s 5) w) (q := s106_p1_den K s w) tr_id (fun i => tr_id) (by kernel_rfl) (by kernel_rfl) @h
def s106_p2 (K : Value → World → Prop) (B1 : List Value → World → Prop) (t1 t3 t5 t25 t26 t27 : Value) (w : World) : Prop :=
  boI .lss t27 t26 (fun t28 w =>
  ifb t28
  (ixs 2 t25 t27 (fun t29 w =>
  ldn 2 t29 (fun t30 w =>
  nw 116 #[(.int .i64 0), (.int .i64 0)] (fun t8 w =>
  stn 2 t8 t30 (fun w =>
  fd 0 t8 (fun t31 w =>
  ld1 t31 (fun t32 w =>
  fd 0 t3 (fun t33 w =>
  ld1 t33 (fun t34 w =>
  lnS t34 (fun t35 w =>
  boI .geq t32 t35 (fun t36 w =>
  gd t36 false (fd 1 t8) (fun t38 w =>
  gd t36 false (ld1 t38) (fun t39 w =>
  gd t36 false (fun K w => K t1 w) (fun t40 w =>
  gd t36 false (boI .sub t39 t40) (fun t41 w =>
  gd t36 false (fd 2 t3) (fun t42 w =>
  gd t36 false (ld1 t42) (fun t43 w =>
  gd t36 false (boI .geq t41 t43) (fun t44 w =>
  pk t36 (.bool true) t44 (fun t45 w =>
  ifb t45
  (K (.bool false) w)
  (boI .add t27 (.int .i64 1) (fun t46 w =>
  B1 [t1, t3, t5, t25, t26, t46] w) w)) w) w) w) w) w) w) w) w) w) w) w) w) w) w) w) w) w) w)
  (s106_p1 K t1 t3 t5 w)) w
def s106_p2_den (K : Value → World → Prop) (M1 : (Nat → Value) → World → Prop) : (Nat → Value) → World → Prop := denL Tryz.prog [(cd (Tryz.f106.body.getD .skip) [1, 1, 0, 1, 0, 0, 0]), (cd (Tryz.f106.body.getD .skip) [1, 1, 0, 1, 0, 0, 1, 0]), (cd (Tryz.f106.body.getD .skip) [1, 1, 0, 1, 0, 0, 1, 1, 0]), (cd (Tryz.f106.body.getD .skip) [1, 1, 0, 1, 0, 0, 1, 1, 1])] M1 (fun i => (bif Nat.beq i 0 then (s106_p1_den K) else (fun _ _ => False))) (s106_R K)
theorem s106_p2_ok (K : Value → World → Prop) (B1 : List Value → World → Prop) (s : Nat → Value) (w : World) (h : s106_p2 K B1 (s 1) (s 3) (s 5) (s 25) (s 26) (s 27) w) : Tr (s106_p2_den K (fun s w => B1 [s 1, s 3, s 5, s 25, s 26, s 27] w) s w) :=
  tr_simple (P := Tryz.prog) (codes := [(cd (Tryz.f106.body.getD .skip) [1, 1, 0, 1, 0, 0, 0]), (cd (Tryz.f106.body.getD .skip) [1, 1, 0, 1, 0, 0, 1, 0]), (cd (Tryz.f106.body.getD .skip) [1, 1, 0, 1, 0, 0, 1, 1, 0]), (cd (Tryz.f106.body.getD .skip) [1, 1, 0, 1, 0, 0, 1, 1, 1])]) (N := (fun s w => B1 [s 1, s 3, s 5, s 25, s 26, s 27] w)) (N' := (fun s w => B1 [s 1, s 3, s 5, s 25, s 26, s 27] w)) (X := (fun i => (bif Nat.beq i 0 then (fun s w => s106_p1 K (s 1) (s 3) (s 5) w) else (fun _ _ => False)))) (X' := (fun i => (bif Nat.beq i 0 then (s106_p1_den K) else (fun _ _ => False)))) (R := s106_R K) (s := s) (w := w) (p := s106_p2 K B1 (s 1) (s 3) (s 5) (s 25) (s 26) (s 27) w) (q := s106_p2_den K (fun s w => B1 [s 1, s 3, s 5, s 25, s 26, s 27] w) s w) tr_id (fun i => (tr_bif (fun s w h => s106_p1_ok K s w @h) tr_id)) (by kernel_rfl) (by kernel_rfl) @h
def s106_p3_F (K : Value → World → Prop) (B1 : List Value → World → Prop) (l : List Value) (w : World) : Prop :=
  match l with
  | [t1, t3, t5, t25, t26, t27] => s106_p2 K B1 t1 t3 t5 t25 t26 t27 w
  | _ => False
theorem s106_p3_Fe {K : Value → World → Prop} {B1 : List Value → World → Prop} {t1 t3 t5 t25 t26 t27 : Value} {w : World} : s106_p3_F K B1 [t1, t3, t5, t25, t26, t27] w = s106_p2 K B1 t1 t3 t5 t25 t26 t27 w := by kernel_rfl
def s106_p3 (K : Value → World → Prop) (t1 t3 t5 t25 t26 t27 : Value) (w : World) : Prop :=
  LoopL (s106_p3_F K) [t1, t3, t5, t25, t26, t27] w
def s106_p3_den (K : Value → World → Prop) : (Nat → Value) → World → Prop := fun s w => LoopP (fun M1 s w => s106_p2_den K M1 s w) s w
theorem s106_p3_ok (K : Value → World → Prop) (s : Nat → Value) (w : World) (h : s106_p3 K (s 1) (s 3) (s 5) (s 25) (s 26) (s 27) w) : Tr (s106_p3_den K s w) :=
  tr_loop (G := fun N' s w => s106_p2_den K N' s w) (F := s106_p3_F K) (sel := fun s => [s 1, s 3, s 5, s 25, s 26, s 27]) (s := s) (w := w) (p := s106_p3 K (s 1) (s 3) (s 5) (s 25) (s 26) (s 27) w) (q := s106_p3_den K s w) (fun B s w h => s106_p2_ok K B s w @h) (by kernel_rfl) (by kernel_rfl) @h
def s106_p4 (K : Value → World → Prop) (t0 t1 t2 : Value) (w : World) : Prop :=
  nw 75 (t0).cells (fun t3 w =>
  nw 66 (t2).cells (fun t5 w =>
  fd 2 t5 (fun t9 w =>
  ld1 t9 (fun t10 w =>
  boI .geq t10 (.int .i64 3) (fun t11 w =>
  gd t11 false (fd 3 t5) (fun t13 w =>
  gd t11 false (ld1 t13) (fun t14 w =>
  gd t11 false (boI .lss t14 (.int .i64 1)) (fun t15 w =>
  pk t11 (.bool true) t15 (fun t16 w =>
  gd t16 false (fd 3 t5) (fun t18 w =>
  gd t16 false (ld1 t18) (fun t19 w =>
  gd t16 false (fd 4 t3) (fun t20 w =>
  gd t16 false (ld1 t20) (fun t21 w =>
  gd t16 false (boI .gtr t19 t21) (fun t22 w =>
  pk t16 (.bool true) t22 (fun t23 w =>
  ifb t23
  (K (.bool false) w)
  (fd 6 t5 (fun t24 w =>
  ld1 t24 (fun t25 w =>
  lnS t25 (fun t26 w =>
  s106_p3 K t1 t3 t5 t25 t26 (.int .i64 0) w) w) w) w)) w) w) w) w) w) w) w) w) w) w) w) w) w) w) w
def s106_p4_den (K : Value → World → Prop) : (Nat → Value) → World → Prop := denL Tryz.prog [(cd (Tryz.f106.body.getD .skip) [0]), (cd (Tryz.f106.body.getD .skip) [1, 0, 0]), (cd (Tryz.f106.body.getD .skip) [1, 0, 1]), (cd (Tryz.f106.body.getD .skip) [1, 1, 0, 0])] (s106_p3_den K) (fun i => (fun _ _ => False)) (s106_R K)
theorem s106_p4_ok (K : Value → World → Prop) (s : Nat → Value) (w : World) (h : s106_p4 K (s 0) (s 1) (s 2) w) : Tr (s106_p4_den K s w) :=
  tr_simple (P := Tryz.prog) (codes := [(cd (Tryz.f106.body.getD .skip) [0]), (cd (Tryz.f106.body.getD .skip) [1, 0, 0]), (cd (Tryz.f106.body.getD .skip) [1, 0, 1]), (cd (Tryz.f106.body.getD .skip) [1, 1, 0, 0])]) (N := (fun s w => s106_p3 K (s 1) (s 3) (s 5) (s 25) (s 26) (s 27) w)) (N' := (s106_p3_den K)) (X := (fun i => (fun _ _ => False))) (X' := (fun i => (fun _ _ => False))) (R := s106_R K) (s := s) (w := w) (p := s106_p4 K (s 0) (s 1) (s 2) w) (q := s106_p4_den K s w) (fun s w h => s106_p3_ok K s w @h) (fun i => tr_id) (by kernel_rfl) (by kernel_rfl) @h
/-- the call, from the text -/
theorem c106 (t0 t1 t2 : Value) {K : Value → World → Prop} {w : World} (h : s106_p4 K t0 t1 t2 w) : cl Tryz.prog 106 #[t0, t1, t2] K w :=
  calls_of_tr (c := (Tryz.f106.body.getD .skip)) (fn := Tryz.f106) (q := s106_p4_den K (st0 #[t0, t1, t2]) w) Tryz.func106 (by kernel_rfl) (by kernel_rfl) (Nat.le_of_ble_eq_true (by kernel_rfl)) (by kernel_rfl) (by kernel_rfl) (s106_p4_ok K (st0 #[t0, t1, t2]) w @h)

/-! ### function 133 : e2e.engine.checkBooking -/
def s133_R (K : Value → World → Prop) (s : Nat → Value) (w : World) : Prop := retv Tryz.prog s Tryz.f133.results.toList (fun vs => K (pack vs) w) w
def s133_p1 (K : Value → World → Prop) (t0 t1 t2 : Value) (w : World) : Prop :=
  nw 75 (t0).cells (fun t3 w =>
  nw 66 (t2).cells (fun t5 w =>
  fd 6 t5 (fun t8 w =>
  ld1 t8 (fun t9 w =>
  lnS t9 (fun t10 w =>
  boI .lss t10 (.int .i64 1) (fun t11 w =>
  gd t11 false (fd 6 t5) (fun t13 w =>
  gd t11 false (ld1 t13) (fun t14 w =>
  gd t11 false (lnS t14) (fun t15 w =>
  gd t11 false (fd 5 t3) (fun t16 w =>
  gd t11 false (ld1 t16) (fun t17 w =>
  gd t11 false (boI .gtr t15 t17) (fun t18 w =>
  pk t11 (.bool true) t18 (fun t19 w =>
  ifb t19
  (K (.bool false) w)
  (fd 5 t5 (fun t20 w =>
  ld1 t20 (fun t21 w =>
  fd 6 t3 (fun t22 w =>
  ld1 t22 (fun t23 w =>
  boI .lss t21 t23 (fun t24 w =>
  gd t24 false (fd 5 t5) (fun t26 w =>
  gd t24 false (ld1 t26) (fun t27 w =>
  gd t24 false (fd 6 t3) (fun t28 w =>
  gd t24 false (ld1 t28) (fun t29 w =>
  gd t24 false (boI .sub t27 t29) (fun t30 w =>
  gd t24 false (fun K w => K t1 w) (fun t31 w =>
  gd t24 false (boI .gtr t30 t31) (fun t32 w =>
  pk t24 (.bool true) t32 (fun t33 w =>
  ifb t33
  (K (.bool false) w)
  (fd 6 t5 (fun t34 w =>
  ld1 t34 (fun t35 w =>
  ixs 2 t35 (.int .i64 0) (fun t36 w =>
  fd 1 t36 (fun t37 w =>
  ld1 t37 (fun t38 w =>
  fd 1 t5 (fun t39 w =>
  ld1 t39 (fun t40 w =>
  boI .eql t40 (.int .i64 1) (fun t42 w =>
  ifb t42
  (fd 5 t5 (fun t43 w =>
  ld1 t43 (fun t44 w =>
  boI .gtr t44 t1 (fun t46 w =>
  K t46 w) w) w) w)
  (boI .eql t40 (.int .i64 6) (fun t48 w =>
  ifb t48
  (fd 5 t5 (fun t49 w =>
  ld1 t49 (fun t50 w =>
  boI .leq t50 t1 (fun t52 w =>
  K t52 w) w) w) w)
  (boI .eql t40 (.int .i64 2) (fun t54 w =>
  ifb t54
  (fd 7 t3 (fun t56 w =>
  ld1 t56 (fun t57 w =>
  boI .add t38 t57 (fun t58 w =>
  boI .gtr t58 t1 (fun t60 w =>
  K t60 w) w) w) w) w)
  (boI .eql t40 (.int .i64 5) (fun t62 w =>
  ifb t62
  (fd 7 t3 (fun t64 w =>
  ld1 t64 (fun t65 w =>
  boI .add t38 t65 (fun t66 w =>
  boI .leq t66 t1 (fun t68 w =>
  K t68 w) w) w) w) w)
  (boI .eql t40 (.int .i64 3) (fun t70 w =>
  ifb t70
  (boI .leq t38 t1 (fun t73 w =>
  K t73 w) w)
  (boI .eql t40 (.int .i64 4) (fun t75 w =>
  ifb t75
  (K (.bool true) w)
  (K (.bool false) w)) w)) w)) w)) w)) w)) w) w) w) w) w) w) w) w)) w) w) w) w) w) w) w) w) w) w) w) w) w)) w) w) w) w) w) w) w) w) w) w) w) w) w
def s133_p1_den (K : Value → World → Prop) : (Nat → Value) → World → Prop := denL Tryz.prog [(cd (Tryz.f133.body.getD .skip) [0]), (cd (Tryz.f133.body.getD .skip) [1, 0, 0]), (cd (Tryz.f133.body.getD .skip) [1, 0, 1]), (cd (Tryz.f133.body.getD .skip) [1, 1, 0, 0]), (cd (Tryz.f133.body.getD .skip) [1, 1, 0, 1]), (cd (Tryz.f133.body.getD .skip) [1, 1, 1, 0]), (cd (Tryz.f133.body.getD .skip) [1, 1, 1, 1, 0, 0]), (cd (Tryz.f133.body.getD .skip) [1, 1, 1, 1, 0, 1]), (cd (Tryz.f133.body.getD .skip) [1, 1, 1, 1, 1, 0]), (cd (Tryz.f133.body.getD .skip) [1, 1, 1, 1, 1, 1])] (fun _ _ => False) (fun i => (fun _ _ => False)) (s133_R K)
theorem s133_p1_ok (K : Value → World → Prop) (s : Nat → Value) (w : World) (h : s133_p1 K (s 0) (s 1) (s 2) w) : Tr (s133_p1_den K s w) :=
  tr_simple (P := Tryz.prog) (codes := [(cd (Tryz.f133.body.getD .skip) [0]), (cd (Tryz.f133.body.getD .skip) [1, 0, 0]), (cd (Tryz.f133.body.getD .skip) [1, 0, 1]), (cd (Tryz.f133.body.getD .skip) [1, 1, 0, 0]), (cd (Tryz.f133.body.getD .skip) [1, 1, 0, 1]), (cd (Tryz.f133.body.getD .skip) [1, 1, 1, 0]), (cd (Tryz.f133.body.getD .skip) [1, 1, 1, 1, 0, 0]), (cd (Tryz.f133.body.getD .skip) [1, 1, 1, 1, 0, 1]), (cd (Tryz.f133.body.getD .skip) [1, 1, 1, 1, 1, 0]), (cd (Tryz.f133.body.getD .skip) [1, 1, 1, 1, 1, 1])]) (N := (fun _ _ => False)) (N' := (fun _ _ => False)) (X := (fun i => (fun _ _ => False))) (X' := (fun i => (fun _ _ => False))) (R := s133_R K) (s := s) (w := w) (p := s133_p1 K (s 0) (s 1) (s 2) w) (q := s133_p1_den K s w) tr_id (fun i => tr_id) (by kernel_rfl) (by kernel_rfl) @h
/-- the call, from the text -/
theorem c133 (t0 t1 t2 : Value) {K : Value → World → Prop} {w : World} (h : s133_p1 K t0 t1 t2 w) : cl Tryz.prog 133 #[t0, t1, t2] K w :=
  calls_of_tr (c := (Tryz.f133.body.getD .skip)) (fn := Tryz.f133) (q := s133_p1_den K (st0 #[t0, t1, t2]) w) Tryz.func133 (by kernel_rfl) (by kernel_rfl) (Nat.le_of_ble_eq_true (by kernel_rfl)) (by kernel_rfl) (by kernel_rfl) (s133_p1_ok K (st0 #[t0, t1, t2]) w @h)

/-! ### function 134 : e2e.engine.checkStandby -/
def s134_R (K : Value → World → Prop) (s : Nat → Value) (w : World) : Prop := retv Tryz.prog s Tryz.f134.results.toList (fun vs => K (pack vs) w) w
def s134_p1 (K : Value → World → Prop) (t1 t3 t5 t45 : Value) (w : World) : Prop :=
  ifb t45
  (K (.bool false) w)
  (fd 6 t5 (fun t46 w =>
  ld1 t46 (fun t47 w =>
  ixs 2 t47 (.int .i64 0) (fun t48 w =>
  fd 1 t48 (fun t49 w =>
  ld1 t49 (fun t50 w =>
  fd 1 t5 (fun t51 w =>
  ld1 t51 (fun t52 w =>
  boI .eql t52 (.int .i64 8) (fun t54 w =>
  ifb t54
  (fd 8 t3 (fun t56 w =>
  ld1 t56 (fun t57 w =>
  boI .add t50 t57 (fun t58 w =>
  boI .gtr t58 t1 (fun t60 w =>
  K t60 w) w) w) w) w)
  (boI .eql t52 (.int .i64 9) (fun t62 w =>
  ifb t62
  (fd 8 t3 (fun t64 w =>
  ld1 t64 (fun t65 w =>
  boI .add t50 t65 (fun t66 w =>
  boI .leq t66 t1 (fun t68 w =>
  K t68 w) w) w) w) w)
  (boI .eql t52 (.int .i64 3) (fun t70 w =>
  ifb t70
  (boI .leq t50 t1 (fun t73 w =>
  K t73 w) w)
  (boI .eql t52 (.int .i64 4) (fun t75 w =>
  ifb t75
  (K (.bool true) w)
  (K (.bool false) w)) w)) w)) w)) w) w) w) w) w) w) w) w)
def s134_p1_den (K : Value → World → Prop) : (Nat → Value) → World → Prop := denL Tryz.prog [(cd (Tryz.f134.body.getD .skip) [1, 1, 1, 0, 1]), (cd (Tryz.f134.body.getD .skip) [1, 1, 1, 1, 0]), (cd (Tryz.f134.body.getD .skip) [1, 1, 1, 1, 1, 0, 0]), (cd (Tryz.f134.body.getD .skip) [1, 1, 1, 1, 1, 0, 1]), (cd (Tryz.f134.body.getD .skip) [1, 1, 1, 1, 1, 1, 0]), (cd (Tryz.f134.body.getD .skip) [1, 1, 1, 1, 1, 1, 1])] (fun _ _ => False) (fun i => (fun _ _ => False)) (s134_R K)
theorem s134_p1_ok (K : Value → World → Prop) (s : Nat → Value) (w : World) (h : s134_p1 K (s 1) (s 3) (s 5) (s 45) w) : Tr (s134_p1_den K s w) :=
  tr_simple (P := Tryz.prog) (codes := [(cd (Tryz.f134.body.getD .skip) [1, 1, 1, 0, 1]), (cd (Tryz.f134.body.getD .skip) [1, 1, 1, 1, 0]), (cd (Tryz.f134.body.getD .skip) [1, 1, 1, 1, 1, 0, 0]), (cd (Tryz.f134.body.getD .skip) [1, 1, 1, 1, 1, 0, 1]), (cd (Tryz.f134.body.getD .skip) [1, 1, 1, 1, 1, 1, 0]), (cd (Tryz.f134.body.getD .skip) [1, 1, 1, 1, 1, 1, 1])]) (N := (fun _ _ => False)) (N' := (fun _ _ => False)) (X := (fun i => (fun _ _ => False))) (X' := (fun i => (fun _ _ => False))) (R := s134_R K) (s := s) (w := w) (p := s134_p1 K (s 1) (s 3) (s 5) (s 45) w) (q := s134_p1_den K s w) tr_id (fun i => tr_id) (by kernel_rfl) (by kernel_rfl) @h
def s134_p2_d (K : Value → World → Prop) (t1 t3 t5 : Value) (w0 w : World) : Prop :=
  fd 6 t5 (fun t31 _ =>
  ld1 t31 (fun t32 _ =>
  lnS t32 (fun t33 _ =>
  boI .neq t33 (.int .i64 1) (fun t34 _ =>
  gd t34 false (fd 6 t5) (fun t36 _ =>
  gd t34 false (ld1 t36) (fun t37 _ =>
  gd t34 false (ixs 2 t37 (.int .i64 0)) (fun t38 _ =>
  gd t34 false (fd 0 t38) (fun t39 _ =>
  gd t34 false (ld1 t39) (fun t40 _ =>
  gd t34 false (fd 4 t5) (fun t41 _ =>
  gd t34 false (ld1 t41) (fun t42 _ =>
  gd t34 false (boI .sub t42 (.int .i64 1)) (fun t43 _ =>
  gd t34 false (boI .neq t40 t43) (fun t44 _ =>
  pk t34 (.bool true) t44 (fun t45 _ =>
  s134_p1 K t1 t3 t5 t45 w) w0) w0) w0) w0) w0) w0) w0) w0) w0) w0) w0) w0) w0) w0
def s134_p2 (K : Value → World → Prop) (t1 t3 t5 : Value) (w : World) : Prop := s134_p2_d K t1 t3 t5 (drw w) (drw w)
def s134_p2_den (K : Value → World → Prop) : (Nat → Value) → World → Prop := denL Tryz.prog [(cd (Tryz.f134.body.getD .skip) [1, 1, 1, 0, 0])] (s134_p1_den K) (fun i => (fun _ _ => False)) (s134_R K)
theorem s134_p2_ok (K : Value → World → Prop) (s : Nat → Value) (w : World) (h : s134_p2 K (s 1) (s 3) (s 5) w) : Tr (s134_p2_den K s w) :=
  tr_draw (P := Tryz.prog) (ops := (ro (cd (Tryz.f134.body.getD .skip) [1, 1, 1, 0, 0]))) (ms := [0, 1, 3, 7, 15, 31, 63, 127, 255, 511, 31, 1055, 3103, 8191, 16383]) (cs := [0, 1, 2, 3, 4, 5, 6, 7, 8, 9, 10, 11, 12, 13, 14]) (N := (fun s w => s134_p1 K (s 1) (s 3) (s 5) (s 45) w)) (N' := (s134_p1_den K)) (s := s) (w := w) (p := s134_p2 K (s 1) (s 3) (s 5) w) (q := s134_p2_den K s w) (by kernel_rfl) (by kernel_rfl) (fun s w h => s134_p1_ok K s w @h) (by kernel_rfl) (by kernel_rfl) @h
def s134_p3 (K : Value → World → Prop) (t0 t1 t2 : Value) (w : World) : Prop :=
  nw 75 (t0).cells (fun t3 w =>
  nw 66 (t2).cells (fun t5 w =>
  fd 4 t5 (fun t8 w =>
  ld1 t8 (fun t9 w =>
  fd 0 t3 (fun t10 w =>
  ld1 t10 (fun t11 w =>
  lnS t11 (fun t12 w =>
  boI .gtr t9 t12 (fun t13 w =>
  gd t13 false (fd 5 t5) (fun t15 w =>
  gd t13 false (ld1 t15) (fun t16 w =>
  gd t13 false (boI .neq t16 (.int .i64 0)) (fun t17 w =>
  pk t13 (.bool true) t17 (fun t18 w =>
  ifb t18
  (K (.bool false) w)
  (fd 6 t5 (fun t19 w =>
  ld1 t19 (fun t20 w =>
  lnS t20 (fun t21 w =>
  boI .eql t21 (.int .i64 0) (fun t22 w =>
  ifb t22
  (fd 1 t5 (fun t23 w =>
  ld1 t23 (fun t24 w =>
  boI .eql t24 (.int .i64 7) (fun t25 w =>
  gd t25 false (fd 1 t5) (fun t27 w =>
  gd t25 false (ld1 t27) (fun t28 w =>
  gd t25 false (boI .eql t28 (.int .i64 4)) (fun t29 w =>
  pk t25 (.bool true) t29 (fun t30 w =>
  K t30 w) w) w) w) w) w) w) w)
  (s134_p2 K t1 t3 t5 w)) w) w) w) w)) w) w) w) w) w) w) w) w) w) w) w) w
def s134_p3_den (K : Value → World → Prop) : (Nat → Value) → World → Prop := denL Tryz.prog [(cd (Tryz.f134.body.getD .skip) [0]), (cd (Tryz.f134.body.getD .skip) [1, 0, 0]), (cd (Tryz.f134.body.getD .skip) [1, 0, 1]), (cd (Tryz.f134.body.getD .skip) [1, 1, 0, 0]), (cd (Tryz.f134.body.getD .skip) [1, 1, 0, 1])] (s134_p2_den K) (fun i => (fun _ _ => False)) (s134_R K)
theorem s134_p3_ok (K : Value → World → Prop) (s : Nat → Value) (w : World) (h : s134_p3 K (s 0) (s 1) (s 2) w) : Tr (s134_p3_den K s w) :=
  tr_simple (P := Tryz.prog) (codes := [(cd (Tryz.f134.body.getD .skip) [0]), (cd (Tryz.f134.body.getD .skip) [1, 0, 0]), (cd (Tryz.f134.body.getD .skip) [1, 0, 1]), (cd (Tryz.f134.body.getD .skip) [1, 1, 0, 0]), (cd (Tryz.f134.body.getD .skip) [1, 1, 0, 1])]) (N := (fun s w => s134_p2 K (s 1) (s 3) (s 5) w)) (N' := (s134_p2_den K)) (X := (fun i => (fun _ _ => False))) (X' := (fun i => (fun _ _ => False))) (R := s134_R K) (s := s) (w := w) (p := s134_p3 K (s 0) (s 1) (s 2) w) (q := s134_p3_den K s w) (fun s w h => s134_p2_ok K s w @h) (fun i => tr_id) (by kernel_rfl) (by kernel_rfl) @h
/-- the call, from the text -/
theorem c134 (t0 t1 t2 : Value) {K : Value → World → Prop} {w : World} (h : s134_p3 K t0 t1 t2 w) : cl Tryz.prog 134 #[t0, t1, t2] K w :=
  calls_of_tr (c := (Tryz.f134.body.getD .skip)) (fn := Tryz.f134) (q := s134_p3_den K (st0 #[t0, t1, t2]) w) Tryz.func134 (by kernel_rfl) (by kernel_rfl) (Nat.le_of_ble_eq_true (by kernel_rfl)) (by kernel_rfl) (by kernel_rfl) (s134_p3_ok K (st0 #[t0, t1, t2]) w @h)

/-! ### function 107 : e2e.engine.checkLines -/
def s107_R (K : Value → World → Prop) (s : Nat → Value) (w : World) : Prop := retv Tryz.prog s Tryz.f107.results.toList (fun vs => K (pack vs) w) w
def s107_p1 (K : Value → World → Prop) (t5 t12 : Value) (w : World) : Prop :=
  boI .eql t12 t5 (fun t89 w =>
  K t89 w) w
def s107_p1_den (K : Value → World → Prop) : (Nat → Value) → World → Prop := denL Tryz.prog [(cd (Tryz.f107.body.getD .skip) [1, 1, 1, 1, 1, 1, 0]), (cd (Tryz.f107.body.getD .skip) [1, 1, 1, 1, 1, 1, 1])] (fun _ _ => False) (fun i => (fun _ _ => False)) (s107_R K)
theorem s107_p1_ok (K : Value → World → Prop) (s : Nat → Value) (w : World) (h : s107_p1 K (s 5) (s 12) w) : Tr (s107_p1_den K s w) :=
  tr_simple (P := Tryz.prog) (codes := [(cd (Tryz.f107.body.getD .skip) [1, 1, 1, 1, 1, 1, 0]), (cd (Tryz.f107.body.getD .skip) [1, 1, 1, 1, 1, 1, 1])]) (N := (fun _ _ => False)) (N' := (fun _ _ => False)) (X := (fun i => (fun _ _ => False))) (X' := (fun i => (fun _ _ => False))) (R := s107_R K) (s := s) (w := w) (p := s107_p1 K (s 5) (s 12) w) (q := s107_p1_den K s w) tr_id (fun i => tr_id) (by kernel_rfl) (by kernel_rfl) @h
def s107_p2 (K : Value → World → Prop) (B1 : List Value → World → Prop) (t5 t12 t75 t76 t77 : Value) (w : World) : Prop :=
  boI .add t77 (.int .i64 1) (fun t86 w =>
  B1 [t5, t12, t75, t76, t86] w) w
def s107_p2_den (K : Value → World → Prop) (M1 : (Nat → Value) → World → Prop) : (Nat → Value) → World → Prop := denL Tryz.prog [(cd (Tryz.f107.body.getD .skip) [1, 1, 1, 1, 1, 0, 1, 0, 0, 1, 1, 1])] M1 (fun i => (bif Nat.beq i 4 then (s107_p1_den K) else (fun _ _ => False))) (s107_R K)
theorem s107_p2_ok (K : Value → World → Prop) (B1 : List Value → World → Prop) (s : Nat → Value) (w : World) (h : s107_p2 K B1 (s 5) (s 12) (s 75) (s 76) (s 77) w) : Tr (s107_p2_den K (fun s w => B1 [s 5, s 12, s 75, s 76, s 77] w) s w) :=
  tr_simple (P := Tryz.prog) (codes := [(cd (Tryz.f107.body.getD .skip) [1, 1, 1, 1, 1, 0, 1, 0, 0, 1, 1, 1])]) (N := (fun s w => B1 [s 5, s 12, s 75, s 76, s 77] w)) (N' := (fun s w => B1 [s 5, s 12, s 75, s 76, s 77] w)) (X := (fun i => (bif Nat.beq i 4 then (fun s w => s107_p1 K (s 5) (s 12) w) else (fun _ _ => False)))) (X' := (fun i => (bif Nat.beq i 4 then (s107_p1_den K) else (fun _ _ => False)))) (R := s107_R K) (s := s) (w := w) (p := s107_p2 K B1 (s 5) (s 12) (s 75) (s 76) (s 77) w) (q := s107_p2_den K (fun s w => B1 [s 5, s 12, s 75, s 76, s 77] w) s w) tr_id (fun i => (tr_bif (fun s w h => s107_p1_ok K s w @h) tr_id)) (by kernel_rfl) (by kernel_rfl) @h
def s107_p3 (K : Value → World → Prop) (B1 : List Value → World → Prop) (t5 t12 t75 t76 t77 : Value) (w : World) : Prop :=
  boI .lss t77 t76 (fun t78 w =>
  ifb t78
  (ixs 7 t75 t77 (fun t79 w =>
  ldn 7 t79 (fun t80 w =>
  nw 66 #[(.int .i64 0), (.int .i64 0), (.int .i64 0), (.int .i64 0), (.int .i64 0), (.int .i64 0), (.slice none 0 0)] (fun t14 w =>
  stn 7 t14 t80 (fun w =>
  fd 1 t14 (fun t81 w =>
  ld1 t81 (fun t82 w =>
  boI .eql t82 (.int .i64 7) (fun t83 w =>
  ifb t83
  (boI .add t12 (.int .i64 1) (fun t85 w =>
  s107_p2 K B1 t5 t85 t75 t76 t77 w) w)
  (s107_p2 K B1 t5 t12 t75 t76 t77 w)) w) w) w) w) w) w) w)
  (s107_p1 K t5 t12 w)) w
def s107_p3_den (K : Value → World → Prop) (M1 : (Nat → Value) → World → Prop) : (Nat → Value) → World → Prop := denL Tryz.prog [(cd (Tryz.f107.body.getD .skip) [1, 1, 1, 1, 1, 0, 1, 0, 0, 0]), (cd (Tryz.f107.body.getD .skip) [1, 1, 1, 1, 1, 0, 1, 0, 0, 1, 0]), (cd (Tryz.f107.body.getD .skip) [1, 1, 1, 1, 1, 0, 1, 0, 0, 1, 1, 0])] (s107_p2_den K M1) (fun i => (bif Nat.beq i 4 then (s107_p1_den K) else (fun _ _ => False))) (s107_R K)
theorem s107_p3_ok (K : Value → World → Prop) (B1 : List Value → World → Prop) (s : Nat → Value) (w : World) (h : s107_p3 K B1 (s 5) (s 12) (s 75) (s 76) (s 77) w) : Tr (s107_p3_den K (fun s w => B1 [s 5, s 12, s 75, s 76, s 77] w) s w) :=
  tr_simple (P := Tryz.prog) (codes := [(cd (Tryz.f107.body.getD .skip) [1, 1, 1, 1, 1, 0, 1, 0, 0, 0]), (cd (Tryz.f107.body.getD .skip) [1, 1, 1, 1, 1, 0, 1, 0, 0, 1, 0]), (cd (Tryz.f107.body.getD .skip) [1, 1, 1, 1, 1, 0, 1, 0, 0, 1, 1, 0])]) (N := (fun s w => s107_p2 K B1 (s 5) (s 12) (s 75) (s 76) (s 77) w)) (N' := (s107_p2_den K (fun s w => B1 [s 5, s 12, s 75, s 76, s 77] w))) (X := (fun i => (bif Nat.beq i 4 then (fun s w => s107_p1 K (s 5) (s 12) w) else (fun _ _ => False)))) (X' := (fun i => (bif Nat.beq i 4 then (s107_p1_den K) else (fun _ _ => False)))) (R := s107_R K) (s := s) (w := w) (p := s107_p3 K B1 (s 5) (s 12) (s 75) (s 76) (s 77) w) (q := s107_p3_den K (fun s w => B1 [s 5, s 12, s 75, s 76, s 77] w) s w) (fun s w h => s107_p2_ok K B1 s w @h) (fun i => (tr_bif (fun s w h => s107_p1_ok K s w @h) tr_id)) (by kernel_rfl) (by kernel_rfl) @h
def s107_p4_F (K : Value → World → Prop) (B1 : List Value → World → Prop) (l : List Value) (w : World) : Prop :=
  match l with
  | [t5, t12, t75, t76, t77] => s107_p3 K B1 t5 t12 t75 t76 t77 w
  | _ => False
theorem s107_p4_Fe {K : Value → World → Prop} {B1 : List Value → World → Prop} {t5 t12 t75 t76 t77 : Value} {w : World} : s107_p4_F K B1 [t5, t12, t75, t76, t77] w = s107_p3 K B1 t5 t12 t75 t76 t77 w := by kernel_rfl
def s107_p4 (K : Value → World → Prop) (t5 t12 t75 t76 t77 : Value) (w : World) : Prop :=
  LoopL (s107_p4_F K) [t5, t12, t75, t76, t77] w
def s107_p4_den (K : Value → World → Prop) : (Nat → Value) → World → Prop := fun s w => LoopP (fun M1 s w => s107_p3_den K M1 s w) s w
theorem s107_p4_ok (K : Value → World → Prop) (s : Nat → Value) (w : World) (h : s107_p4 K (s 5) (s 12) (s 75) (s 76) (s 77) w) : Tr (s107_p4_den K s w) :=
  tr_loop (G := fun N' s w => s107_p3_den K N' s w) (F := s107_p4_F K) (sel := fun s => [s 5, s 12, s 75, s 76, s 77]) (s := s) (w := w) (p := s107_p4 K (s 5) (s 12) (s 75) (s 76) (s 77) w) (q := s107_p4_den K s w) (fun B s w h => s107_p3_ok K B s w @h) (by kernel_rfl) (by kernel_rfl) @h
def s107_p5 (K : Value → World → Prop) (t3 t5 : Value) (w : World) : Prop :=
  fd 3 t3 (fun t74 w =>
  ld1 t74 (fun t75 w =>
  lnS t75 (fun t76 w =>
  s107_p4 K t5 (.int .i64 0) t75 t76 (.int .i64 0) w) w) w) w
def s107_p5_den (K : Value → World → Prop) : (Nat → Value) → World → Prop := denL Tryz.prog [(cd (Tryz.f107.body.getD .skip) [1, 1, 1, 1, 0]), (cd (Tryz.f107.body.getD .skip) [1, 1, 1, 1, 1, 0, 0])] (s107_p4_den K) (fun i => (fun _ _ => False)) (s107_R K)
theorem s107_p5_ok (K : Value → World → Prop) (s : Nat → Value) (w : World) (h : s107_p5 K (s 3) (s 5) w) : Tr (s107_p5_den K s w) :=
  tr_simple (P := Tryz.prog) (codes := [(cd (Tryz.f107.body.getD .skip) [1, 1, 1, 1, 0]), (cd (Tryz.f107.body.getD .skip) [1, 1, 1, 1, 1, 0, 0])]) (N := (fun s w => s107_p4 K (s 5) (s 12) (s 75) (s 76) (s 77) w)) (N' := (s107_p4_den K)) (X := (fun i => (fun _ _ => False))) (X' := (fun i => (fun _ _ => False))) (R := s107_R K) (s := s) (w := w) (p := s107_p5 K (s 3) (s 5) w) (q := s107_p5_den K s w) (fun s w h => s107_p4_ok K s w @h) (fun i => tr_id) (by kernel_rfl) (by kernel_rfl) @h
def s107_p6 (K : Value → World → Prop) (B1 : List Value → World → Prop) (t2 t3 t5 t23 t24 t25 : Value) (w : World) : Prop :=
  boI .add t25 (.int .i64 1) (fun t73 w =>
  B1 [t2, t3, t5, t23, t24, t73] w) w
def s107_p6_den (K : Value → World → Prop) (M1 : (Nat → Value) → World → Prop) : (Nat → Value) → World → Prop := denL Tryz.prog [(cd (Tryz.f107.body.getD .skip) [1, 1, 1, 0, 1, 0, 0, 1, 1, 1])] M1 (fun i => (bif Nat.beq i 0 then (s107_p5_den K) else (fun _ _ => False))) (s107_R K)
theorem s107_p6_ok (K : Value → World → Prop) (B1 : List Value → World → Prop) (s : Nat → Value) (w : World) (h : s107_p6 K B1 (s 2) (s 3) (s 5) (s 23) (s 24) (s 25) w) : Tr (s107_p6_den K (fun s w => B1 [s 2, s 3, s 5, s 23, s 24, s 25] w) s w) :=
  tr_simple (P := Tryz.prog) (codes := [(cd (Tryz.f107.body.getD .skip) [1, 1, 1, 0, 1, 0, 0, 1, 1, 1])]) (N := (fun s w => B1 [s 2, s 3, s 5, s 23, s 24, s 25] w)) (N' := (fun s w => B1 [s 2, s 3, s 5, s 23, s 24, s 25] w)) (X := (fun i => (bif Nat.beq i 0 then (fun s w => s107_p5 K (s 3) (s 5) w) else (fun _ _ => False)))) (X' := (fun i => (bif Nat.beq i 0 then (s107_p5_den K) else (fun _ _ => False)))) (R := s107_R K) (s := s) (w := w) (p := s107_p6 K B1 (s 2) (s 3) (s 5) (s 23) (s 24) (s 25) w) (q := s107_p6_den K (fun s w => B1 [s 2, s 3, s 5, s 23, s 24, s 25] w) s w) tr_id (fun i => (tr_bif (fun s w h => s107_p5_ok K s w @h) tr_id)) (by kernel_rfl) (by kernel_rfl) @h
def s107_p7 (K : Value → World → Prop) (B1 : List Value → World → Prop) (t2 t3 t5 t7 t23 t24 t25 : Value) (w : World) : Prop :=
  lnS t7 (fun t71 w =>
  boI .add t5 t71 (fun t72 w =>
  s107_p6 K B1 t2 t3 t72 t23 t24 t25 w) w) w
def s107_p7_den (K : Value → World → Prop) (M1 : (Nat → Value) → World → Prop) : (Nat → Value) → World → Prop := denL Tryz.prog [(cd (Tryz.f107.body.getD .skip) [1, 1, 1, 0, 1, 0, 0, 1, 1, 0, 0, 1, 1, 1, 1])] (s107_p6_den K M1) (fun i => (bif Nat.beq i 1 then (s107_p6_den K M1) else (bif Nat.beq i 0 then (s107_p5_den K) else (fun _ _ => False)))) (s107_R K)
theorem s107_p7_ok (K : Value → World → Prop) (B1 : List Value → World → Prop) (s : Nat → Value) (w : World) (h : s107_p7 K B1 (s 2) (s 3) (s 5) (s 7) (s 23) (s 24) (s 25) w) : Tr (s107_p7_den K (fun s w => B1 [s 2, s 3, s 5, s 23, s 24, s 25] w) s w) :=
  tr_simple (P := Tryz.prog) (codes := [(cd (Tryz.f107.body.getD .skip) [1, 1, 1, 0, 1, 0, 0, 1, 1, 0, 0, 1, 1, 1, 1])]) (N := (fun s w => s107_p6 K B1 (s 2) (s 3) (s 5) (s 23) (s 24) (s 25) w)) (N' := (s107_p6_den K (fun s w => B1 [s 2, s 3, s 5, s 23, s 24, s 25] w))) (X := (fun i => (bif Nat.beq i 1 then (fun s w => s107_p6 K B1 (s 2) (s 3) (s 5) (s 23) (s 24) (s 25) w) else (bif Nat.beq i 0 then (fun s w => s107_p5 K (s 3) (s 5) w) else (fun _ _ => False))))) (X' := (fun i => (bif Nat.beq i 1 then (s107_p6_den K (fun s w => B1 [s 2, s 3, s 5, s 23, s 24, s 25] w)) else (bif Nat.beq i 0 then (s107_p5_den K) else (fun _ _ => False))))) (R := s107_R K) (s := s) (w := w) (p := s107_p7 K B1 (s 2) (s 3) (s 5) (s 7) (s 23) (s 24) (s 25) w) (q := s107_p7_den K (fun s w => B1 [s 2, s 3, s 5, s 23, s 24, s 25] w) s w) (fun s w h => s107_p6_ok K B1 s w @h) (fun i => (tr_bif (fun s w h => s107_p6_ok K B1 s w @h) (tr_bif (fun s w h => s107_p5_ok K s w @h) tr_id))) (by kernel_rfl) (by kernel_rfl) @h
def s107_p8 (K : Value → World → Prop) (B1 : List Value → World → Prop) (B2 : List Value → World → Prop) (t2 t3 t5 t6 t7 t8 t23 t24 t25 t35 t36 t37 : Value) (w : World) : Prop :=
  boI .lss t37 t36 (fun t38 w =>
  ifb t38
  (ixs 1 t35 t37 (fun t39 w =>
  ld1 t39 (fun t40 w =>
  boI .leq t40 t8 (fun t43 w =>
  gd t43 false (fun K w => K t40 w) (fun t45 w =>
  gd t43 false (fd 3 t3) (fun t46 w =>
  gd t43 false (ld1 t46) (fun t47 w =>
  gd t43 false (lnS t47) (fun t48 w =>
  gd t43 false (boI .gtr t45 t48) (fun t49 w =>
  pk t43 (.bool true) t49 (fun t50 w =>
  ifb t50
  (K (.bool false) w)
  (fd 3 t3 (fun t52 w =>
  ld1 t52 (fun t53 w =>
  boI .sub t40 (.int .i64 1) (fun t55 w =>
  ixs 7 t53 t55 (fun t56 w =>
  ldn 7 t56 (fun t57 w =>
  nw 66 #[(.int .i64 0), (.int .i64 0), (.int .i64 0), (.int .i64 0), (.int .i64 0), (.int .i64 0), (.slice none 0 0)] (fun t11 w =>
  stn 7 t11 t57 (fun w =>
  fd 1 t11 (fun t58 w =>
  ld1 t58 (fun t59 w =>
  boI .neq t59 (.int .i64 7) (fun t60 w =>
  gd t60 false (fd 4 t11) (fun t62 w =>
  gd t60 false (ld1 t62) (fun t63 w =>
  gd t60 false (fun K w => K t6 w) (fun t64 w =>
  gd t60 false (boI .add t64 (.int .i64 1)) (fun t65 w =>
  gd t60 false (boI .neq t63 t65) (fun t66 w =>
  pk t60 (.bool true) t66 (fun t67 w =>
  ifb t67
  (K (.bool false) w)
  (boI .add t37 (.int .i64 1) (fun t68 w =>
  B2 [t2, t3, t5, t6, t7, t40, t23, t24, t25, t35, t36, t68] w) w)) w) w) w) w) w) w) w) w) w) w) w) w) w) w) w) w)) w) w) w) w) w) w) w) w) w)
  (s107_p7 K B1 t2 t3 t5 t7 t23 t24 t25 w)) w
def s107_p8_den (K : Value → World → Prop) (M1 : (Nat → Value) → World → Prop) (M2 : (Nat → Value) → World → Prop) : (Nat → Value) → World → Prop := denL Tryz.prog [(cd (Tryz.f107.body.getD .skip) [1, 1, 1, 0, 1, 0, 0, 1, 1, 0, 0, 1, 1, 1, 0, 1, 0, 0, 0]), (cd (Tryz.f107.body.getD .skip) [1, 1, 1, 0, 1, 0, 0, 1, 1, 0, 0, 1, 1, 1, 0, 1, 0, 0, 1, 0]), (cd (Tryz.f107.body.getD .skip) [1, 1, 1, 0, 1, 0, 0, 1, 1, 0, 0, 1, 1, 1, 0, 1, 0, 0, 1, 1, 0]), (cd (Tryz.f107.body.getD .skip) [1, 1, 1, 0, 1, 0, 0, 1, 1, 0, 0, 1, 1, 1, 0, 1, 0, 0, 1, 1, 1])] M2 (fun i => (bif Nat.beq i 2 then (s107_p7_den K M1) else (bif Nat.beq i 1 then (s107_p6_den K M1) else (bif Nat.beq i 0 then (s107_p5_den K) else (fun _ _ => False))))) (s107_R K)
theorem s107_p8_ok (K : Value → World → Prop) (B1 : List Value → World → Prop) (B2 : List Value → World → Prop) (s : Nat → Value) (w : World) (h : s107_p8 K B1 B2 (s 2) (s 3) (s 5) (s 6) (s 7) (s 8) (s 23) (s 24) (s 25) (s 35) (s 36) (s 37) w) : Tr (s107_p8_den K (fun s w => B1 [s 2, s 3, s 5, s 23, s 24, s 25] w) (fun s w => B2 [s 2, s 3, s 5, s 6, s 7, s 8, s 23, s 24, s 25, s 35, s 36, s 37] w) s w) :=
  tr_simple (P := Tryz.prog) (codes := [(cd (Tryz.f107.body.getD .skip) [1, 1, 1, 0, 1, 0, 0, 1, 1, 0, 0, 1, 1, 1, 0, 1, 0, 0, 0]), (cd (Tryz.f107.body.getD .skip) [1, 1, 1, 0, 1, 0, 0, 1, 1, 0, 0, 1, 1, 1, 0, 1, 0, 0, 1, 0]), (cd (Tryz.f107.body.getD .skip) [1, 1, 1, 0, 1, 0, 0, 1, 1, 0, 0, 1, 1, 1, 0, 1, 0, 0, 1, 1, 0]), (cd (Tryz.f107.body.getD .skip) [1, 1, 1, 0, 1, 0, 0, 1, 1, 0, 0, 1, 1, 1, 0, 1, 0, 0, 1, 1, 1])]) (N := (fun s w => B2 [s 2, s 3, s 5, s 6, s 7, s 8, s 23, s 24, s 25, s 35, s 36, s 37] w)) (N' := (fun s w => B2 [s 2, s 3, s 5, s 6, s 7, s 8, s 23, s 24, s 25, s 35, s 36, s 37] w)) (X := (fun i => (bif Nat.beq i 2 then (fun s w => s107_p7 K B1 (s 2) (s 3) (s 5) (s 7) (s 23) (s 24) (s 25) w) else (bif Nat.beq i 1 then (fun s w => s107_p6 K B1 (s 2) (s 3) (s 5) (s 23) (s 24) (s 25) w) else (bif Nat.beq i 0 then (fun s w => s107_p5 K (s 3) (s 5) w) else (fun _ _ => False)))))) (X' := (fun i => (bif Nat.beq i 2 then (s107_p7_den K (fun s w => B1 [s 2, s 3, s 5, s 23, s 24, s 25] w)) else (bif Nat.beq i 1 then (s107_p6_den K (fun s w => B1 [s 2, s 3, s 5, s 23, s 24, s 25] w)) else (bif Nat.beq i 0 then (s107_p5_den K) else (fun _ _ => False)))))) (R := s107_R K) (s := s) (w := w) (p := s107_p8 K B1 B2 (s 2) (s 3) (s 5) (s 6) (s 7) (s 8) (s 23) (s 24) (s 25) (s 35) (s 36) (s 37) w) (q := s107_p8_den K (fun s w => B1 [s 2, s 3, s 5, s 23, s 24, s 25] w) (fun s w => B2 [s 2, s 3, s 5, s 6, s 7, s 8, s 23, s 24, s 25, s 35, s 36, s 37] w) s w) tr_id (fun i => (tr_bif (fun s w h => s107_p7_ok K B1 s w @h) (tr_bif (fun s w h => s107_p6_ok K B1 s w @h) (tr_bif (fun s w h => s107_p5_ok K s w @h) tr_id)))) (by kernel_rfl) (by kernel_rfl) @h
def s107_p9_F (K : Value → World → Prop) (B1 : List Value → World → Prop) (B2 : List Value → World → Prop) (l : List Value) (w : World) : Prop :=
  match l with
  | [t2, t3, t5, t6, t7, t8, t23, t24, t25, t35, t36, t37] => s107_p8 K B1 B2 t2 t3 t5 t6 t7 t8 t23 t24 t25 t35 t36 t37 w
  | _ => False
theorem s107_p9_Fe {K : Value → World → Prop} {B1 : List Value → World → Prop} {B2 : List Value → World → Prop} {t2 t3 t5 t6 t7 t8 t23 t24 t25 t35 t36 t37 : Value} {w : World} : s107_p9_F K B1 B2 [t2, t3, t5, t6, t7, t8, t23, t24, t25, t35, t36, t37] w = s107_p8 K B1 B2 t2 t3 t5 t6 t7 t8 t23 t24 t25 t35 t36 t37 w := by kernel_rfl
def s107_p9 (K : Value → World → Prop) (B1 : List Value → World → Prop) (t2 t3 t5 t6 t7 t8 t23 t24 t25 t35 t36 t37 : Value) (w : World) : Prop :=
  LoopL (s107_p9_F K B1) [t2, t3, t5, t6, t7, t8, t23, t24, t25, t35, t36, t37] w
def s107_p9_den (K : Value → World → Prop) (M1 : (Nat → Value) → World → Prop) : (Nat → Value) → World → Prop := fun s w => LoopP (fun M2 s w => s107_p8_den K M1 M2 s w) s w
theorem s107_p9_ok (K : Value → World → Prop) (B1 : List Value → World → Prop) (s : Nat → Value) (w : World) (h : s107_p9 K B1 (s 2) (s 3) (s 5) (s 6) (s 7) (s 8) (s 23) (s 24) (s 25) (s 35) (s 36) (s 37) w) : Tr (s107_p9_den K (fun s w => B1 [s 2, s 3, s 5, s 23, s 24, s 25] w) s w) :=
  tr_loop (G := fun N' s w => s107_p8_den K (fun s w => B1 [s 2, s 3, s 5, s 23, s 24, s 25] w) N' s w) (F := s107_p9_F K B1) (sel := fun s => [s 2, s 3, s 5, s 6, s 7, s 8, s 23, s 24, s 25, s 35, s 36, s 37]) (s := s) (w := w) (p := s107_p9 K B1 (s 2) (s 3) (s 5) (s 6) (s 7) (s 8) (s 23) (s 24) (s 25) (s 35) (s 36) (s 37) w) (q := s107_p9_den K (fun s w => B1 [s 2, s 3, s 5, s 23, s 24, s 25] w) s w) (fun B s w h => s107_p8_ok K B1 B s w @h) (by kernel_rfl) (by kernel_rfl) @h
def s107_p10 (K : Value → World → Prop) (B1 : List Value → World → Prop) (t2 t3 t5 t23 t24 t25 : Value) (w : World) : Prop :=
  ixs 1 t23 t25 (fun t28 w =>
  ld1 t28 (fun t29 w =>
  lnS t29 (fun t31 w =>
  fd 11 t2 (fun t32 w =>
  ld1 t32 (fun t33 w =>
  boI .gtr t31 t33 (fun t34 w =>
  ifb t34
  (K (.bool false) w)
  (lnS t29 (fun t36 w =>
  s107_p9 K B1 t2 t3 t5 t25 t29 (.int .i64 0) t23 t24 t25 t29 t36 (.int .i64 0) w) w)) w) w) w) w) w) w
def s107_p10_den (K : Value → World → Prop) (M1 : (Nat → Value) → World → Prop) : (Nat → Value) → World → Prop := denL Tryz.prog [(cd (Tryz.f107.body.getD .skip) [1, 1, 1, 0, 1, 0, 0, 1, 1, 0, 0, 0]), (cd (Tryz.f107.body.getD .skip) [1, 1, 1, 0, 1, 0, 0, 1, 1, 0, 0, 1, 0, 0]), (cd (Tryz.f107.body.getD .skip) [1, 1, 1, 0, 1, 0, 0, 1, 1, 0, 0, 1, 0, 1]), (cd (Tryz.f107.body.getD .skip) [1, 1, 1, 0, 1, 0, 0, 1, 1, 0, 0, 1, 1, 0]), (cd (Tryz.f107.body.getD .skip) [1, 1, 1, 0, 1, 0, 0, 1, 1, 0, 0, 1, 1, 1, 0, 0])] (s107_p9_den K M1) (fun i => (bif Nat.beq i 1 then (s107_p6_den K M1) else (bif Nat.beq i 0 then (s107_p5_den K) else (fun _ _ => False)))) (s107_R K)
theorem s107_p10_ok (K : Value → World → Prop) (B1 : List Value → World → Prop) (s : Nat → Value) (w : World) (h : s107_p10 K B1 (s 2) (s 3) (s 5) (s 23) (s 24) (s 25) w) : Tr (s107_p10_den K (fun s w => B1 [s 2, s 3, s 5, s 23, s 24, s 25] w) s w) :=
  tr_simple (P := Tryz.prog) (codes := [(cd (Tryz.f107.body.getD .skip) [1, 1, 1, 0, 1, 0, 0, 1, 1, 0, 0, 0]), (cd (Tryz.f107.body.getD .skip) [1, 1, 1, 0, 1, 0, 0, 1, 1, 0, 0, 1, 0, 0]), (cd (Tryz.f107.body.getD .skip) [1, 1, 1, 0, 1, 0, 0, 1, 1, 0, 0, 1, 0, 1]), (cd (Tryz.f107.body.getD .skip) [1, 1, 1, 0, 1, 0, 0, 1, 1, 0, 0, 1, 1, 0]), (cd (Tryz.f107.body.getD .skip) [1, 1, 1, 0, 1, 0, 0, 1, 1, 0, 0, 1, 1, 1, 0, 0])]) (N := (fun s w => s107_p9 K B1 (s 2) (s 3) (s 5) (s 6) (s 7) (s 8) (s 23) (s 24) (s 25) (s 35) (s 36) (s 37) w)) (N' := (s107_p9_den K (fun s w => B1 [s 2, s 3, s 5, s 23, s 24, s 25] w))) (X := (fun i => (bif Nat.beq i 1 then (fun s w => s107_p6 K B1 (s 2) (s 3) (s 5) (s 23) (s 24) (s 25) w) else (bif Nat.beq i 0 then (fun s w => s107_p5 K (s 3) (s 5) w) else (fun _ _ => False))))) (X' := (fun i => (bif Nat.beq i 1 then (s107_p6_den K (fun s w => B1 [s 2, s 3, s 5, s 23, s 24, s 25] w)) else (bif Nat.beq i 0 then (s107_p5_den K) else (fun _ _ => False))))) (R := s107_R K) (s := s) (w := w) (p := s107_p10 K B1 (s 2) (s 3) (s 5) (s 23) (s 24) (s 25) w) (q := s107_p10_den K (fun s w => B1 [s 2, s 3, s 5, s 23, s 24, s 25] w) s w) (fun s w h => s107_p9_ok K B1 s w @h) (fun i => (tr_bif (fun s w h => s107_p6_ok K B1 s w @h) (tr_bif (fun s w h => s107_p5_ok K s w @h) tr_id))) (by kernel_rfl) (by kernel_rfl) @h
def s107_p11 (K : Value → World → Prop) (B1 : List Value → World → Prop) (t2 t3 t5 t23 t24 t25 : Value) (w : World) : Prop :=
  boI .lss t25 t24 (fun t26 w =>
  ifb t26
  (s107_p10 K B1 t2 t3 t5 t23 t24 t25 w)
  (s107_p5 K t3 t5 w)) w
def s107_p11_den (K : Value → World → Prop) (M1 : (Nat → Value) → World → Prop) : (Nat → Value) → World → Prop := denL Tryz.prog [(cd (Tryz.f107.body.getD .skip) [1, 1, 1, 0, 1, 0, 0, 0]), (cd (Tryz.f107.body.getD .skip) [1, 1, 1, 0, 1, 0, 0, 1, 0])] (s107_p10_den K M1) (fun i => (bif Nat.beq i 0 then (s107_p5_den K) else (fun _ _ => False))) (s107_R K)
theorem s107_p11_ok (K : Value → World → Prop) (B1 : List Value → World → Prop) (s : Nat → Value) (w : World) (h : s107_p11 K B1 (s 2) (s 3) (s 5) (s 23) (s 24) (s 25) w) : Tr (s107_p11_den K (fun s w => B1 [s 2, s 3, s 5, s 23, s 24, s 25] w) s w) :=
  tr_simple (P := Tryz.prog) (codes := [(cd (Tryz.f107.body.getD .skip) [1, 1, 1, 0, 1, 0, 0, 0]), (cd (Tryz.f107.body.getD .skip) [1, 1, 1, 0, 1, 0, 0, 1, 0])]) (N := (fun s w => s107_p10 K B1 (s 2) (s 3) (s 5) (s 23) (s 24) (s 25) w)) (N' := (s107_p10_den K (fun s w => B1 [s 2, s 3, s 5, s 23, s 24, s 25] w))) (X := (fun i => (bif Nat.beq i 0 then (fun s w => s107_p5 K (s 3) (s 5) w) else (fun _ _ => False)))) (X' := (fun i => (bif Nat.beq i 0 then (s107_p5_den K) else (fun _ _ => False)))) (R := s107_R K) (s := s) (w := w) (p := s107_p11 K B1 (s 2) (s 3) (s 5) (s 23) (s 24) (s 25) w) (q := s107_p11_den K (fun s w => B1 [s 2, s 3, s 5, s 23, s 24, s 25] w) s w) (fun s w h => s107_p10_ok K B1 s w @h) (fun i => (tr_bif (fun s w h => s107_p5_ok K s w @h) tr_id)) (by kernel_rfl) (by kernel_rfl) @h
def s107_p12_F (K : Value → World → Prop) (B1 : List Value → World → Prop) (l : List Value) (w : World) : Prop :=
  match l with
  | [t2, t3, t5, t23, t24, t25] => s107_p11 K B1 t2 t3 t5 t23 t24 t25 w
  | _ => False
theorem s107_p12_Fe {K : Value → World → Prop} {B1 : List Value → World → Prop} {t2 t3 t5 t23 t24 t25 : Value} {w : World} : s107_p12_F K B1 [t2, t3, t5, t23, t24, t25] w = s107_p11 K B1 t2 t3 t5 t23 t24 t25 w := by kernel_rfl
def s107_p12 (K : Value → World → Prop) (t2 t3 t5 t23 t24 t25 : Value) (w : World) : Prop :=
  LoopL (s107_p12_F K) [t2, t3, t5, t23, t24, t25] w
def s107_p12_den (K : Value → World → Prop) : (Nat → Value) → World → Prop := fun s w => LoopP (fun M1 s w => s107_p11_den K M1 s w) s w
theorem s107_p12_ok (K : Value → World → Prop) (s : Nat → Value) (w : World) (h : s107_p12 K (s 2) (s 3) (s 5) (s 23) (s 24) (s 25) w) : Tr (s107_p12_den K s w) :=
  tr_loop (G := fun N' s w => s107_p11_den K N' s w) (F := s107_p12_F K) (sel := fun s => [s 2, s 3, s 5, s 23, s 24, s 25]) (s := s) (w := w) (p := s107_p12 K (s 2) (s 3) (s 5) (s 23) (s 24) (s 25) w) (q := s107_p12_den K s w) (fun B s w h => s107_p11_ok K B s w @h) (by kernel_rfl) (by kernel_rfl) @h
def s107_p13 (K : Value → World → Prop) (t0 t1 : Value) (w : World) : Prop :=
  nw 75 (t0).cells (fun t2 w =>
  nw 141 (t1).cells (fun t3 w =>
  fd 4 t3 (fun t15 w =>
  ld1 t15 (fun t16 w =>
  lnS t16 (fun t17 w =>
  fd 0 t2 (fun t18 w =>
  ld1 t18 (fun t19 w =>
  lnS t19 (fun t20 w =>
  boI .neq t17 t20 (fun t21 w =>
  ifb t21
  (K (.bool false) w)
  (fd 4 t3 (fun t22 w =>
  ld1 t22 (fun t23 w =>
  lnS t23 (fun t24 w =>
  s107_p12 K t2 t3 (.int .i64 0) t23 t24 (.int .i64 0) w) w) w) w)) w) w) w) w) w) w) w) w) w
def s107_p13_den (K : Value → World → Prop) : (Nat → Value) → World → Prop := denL Tryz.prog [(cd (Tryz.f107.body.getD .skip) [0]), (cd (Tryz.f107.body.getD .skip) [1, 0, 0]), (cd (Tryz.f107.body.getD .skip) [1, 0, 1]), (cd (Tryz.f107.body.getD .skip) [1, 1, 0]), (cd (Tryz.f107.body.getD .skip) [1, 1, 1, 0, 0])] (s107_p12_den K) (fun i => (fun _ _ => False)) (s107_R K)
theorem s107_p13_ok (K : Value → World → Prop) (s : Nat → Value) (w : World) (h : s107_p13 K (s 0) (s 1) w) : Tr (s107_p13_den K s w) :=
  tr_simple (P := Tryz.prog) (codes := [(cd (Tryz.f107.body.getD .skip) [0]), (cd (Tryz.f107.body.getD .skip) [1, 0, 0]), (cd (Tryz.f107.body.getD .skip) [1, 0, 1]), (cd (Tryz.f107.body.getD .skip) [1, 1, 0]), (cd (Tryz.f107.body.getD .skip) [1, 1, 1, 0, 0])]) (N := (fun s w => s107_p12 K (s 2) (s 3) (s 5) (s 23) (s 24) (s 25) w)) (N' := (s107_p12_den K)) (X := (fun i => (fun _ _ => False))) (X' := (fun i => (fun _ _ => False))) (R := s107_R K) (s := s) (w := w) (p := s107_p13 K (s 0) (s 1) w) (q := s107_p13_den K s w) (fun s w h => s107_p12_ok K s w @h) (fun i => tr_id) (by kernel_rfl) (by kernel_rfl) @h
/-- the call, from the text -/
theorem c107 (t0 t1 : Value) {K : Value → World → Prop} {w : World} (h : s107_p13 K t0 t1 w) : cl Tryz.prog 107 #[t0, t1] K w :=
  calls_of_tr (c := (Tryz.f107.body.getD .skip)) (fn := Tryz.f107) (q := s107_p13_den K (st0 #[t0, t1]) w) Tryz.func107 (by kernel_rfl) (by kernel_rfl) (Nat.le_of_ble_eq_true (by kernel_rfl)) (by kernel_rfl) (by kernel_rfl) (s107_p13_ok K (st0 #[t0, t1]) w @h)

/-! ### function 108 : e2e.engine.checkLoad -/
def s108_R (K : Value → World → Prop) (s : Nat → Value) (w : World) : Prop := retv Tryz.prog s Tryz.f108.results.toList (fun vs => K (pack vs) w) w
def s108_p1 (K : Value → World → Prop) (w : World) : Prop :=
  K (.bool true) w
def s108_p1_den (K : Value → World → Prop) : (Nat → Value) → World → Prop := denL Tryz.prog [(cd (Tryz.f108.body.getD .skip) [1, 1, 1, 0]), (cd (Tryz.f108.body.getD .skip) [1, 1, 1, 1])] (fun _ _ => False) (fun i => (fun _ _ => False)) (s108_R K)
theorem s108_p1_ok (K : Value → World → Prop) (s : Nat → Value) (w : World) (h : s108_p1 K w) : Tr (s108_p1_den K s w) :=
  tr_simple (P := Tryz.prog) (codes := [(cd (Tryz.f108.body.getD .skip) [1, 1, 1, 0]), (cd (Tryz.f108.body.getD .skip) [1, 1, 1, 1])]) (N := (fun _ _ => False)) (N' := (fun _ _ => False)) (X := (fun i => (fun _ _ => False))) (X' := (fun i => (fun _ _ => False))) (R := s108_R K) (s := s) (w := w) (p := s108_p1 K w) (q := s108_p1_den K s w) tr_id (fun i => tr_id) (by kernel_rfl) (by kernel_rfl) @h
def s108_p2 (K : Value → World → Prop) (B1 : List Value → World → Prop) (t2 t5 t16 t17 t18 : Value) (w : World) : Prop :=
  boI .add t18 (.int .i64 1) (fun t105 w =>
  B1 [t2, t5, t16, t17, t105] w) w
def s108_p2_den (K : Value → World → Prop) (M1 : (Nat → Value) → World → Prop) : (Nat → Value) → World → Prop := denL Tryz.prog [(cd (Tryz.f108.body.getD .skip) [1, 1, 0, 1, 0, 0, 1, 1, 1])] M1 (fun i => (bif Nat.beq i 0 then (s108_p1_den K) else (fun _ _ => False))) (s108_R K)
theorem s108_p2_ok (K : Value → World → Prop) (B1 : List Value → World → Prop) (s : Nat → Value) (w : World) (h : s108_p2 K B1 (s 2) (s 5) (s 16) (s 17) (s 18) w) : Tr (s108_p2_den K (fun s w => B1 [s 2, s 5, s 16, s 17, s 18] w) s w) :=
  tr_simple (P := Tryz.prog) (codes := [(cd (Tryz.f108.body.getD .skip) [1, 1, 0, 1, 0, 0, 1, 1, 1])]) (N := (fun s w => B1 [s 2, s 5, s 16, s 17, s 18] w)) (N' := (fun s w => B1 [s 2, s 5, s 16, s 17, s 18] w)) (X := (fun i => (bif Nat.beq i 0 then (fun s w => s108_p1 K w) else (fun _ _ => False)))) (X' := (fun i => (bif Nat.beq i 0 then (s108_p1_den K) else (fun _ _ => False)))) (R := s108_R K) (s := s) (w := w) (p := s108_p2 K B1 (s 2) (s 5) (s 16) (s 17) (s 18) w) (q := s108_p2_den K (fun s w => B1 [s 2, s 5, s 16, s 17, s 18] w) s w) tr_id (fun i => (tr_bif (fun s w h => s108_p1_ok K s w @h) tr_id)) (by kernel_rfl) (by kernel_rfl) @h
def s108_p3 (K : Value → World → Prop) (B1 : List Value → World → Prop) (B2 : List Value → World → Prop) (t2 t5 t7 t16 t17 t18 t27 t28 t29 : Value) (w : World) : Prop :=
  boI .add t29 (.int .i64 1) (fun t104 w =>
  B2 [t2, t5, t7, t16, t17, t18, t27, t28, t104] w) w
def s108_p3_den (K : Value → World → Prop) (M1 : (Nat → Value) → World → Prop) (M2 : (Nat → Value) → World → Prop) : (Nat → Value) → World → Prop := denL Tryz.prog [(cd (Tryz.f108.body.getD .skip) [1, 1, 0, 1, 0, 0, 1, 1, 0, 0, 1, 1, 1, 0, 0, 1, 1, 1])] M2 (fun i => (bif Nat.beq i 2 then (s108_p2_den K M1) else (bif Nat.beq i 1 then (s108_p2_den K M1) else (bif Nat.beq i 0 then (s108_p1_den K) else (fun _ _ => False))))) (s108_R K)
theorem s108_p3_ok (K : Value → World → Prop) (B1 : List Value → World → Prop) (B2 : List Value → World → Prop) (s : Nat → Value) (w : World) (h : s108_p3 K B1 B2 (s 2) (s 5) (s 7) (s 16) (s 17) (s 18) (s 27) (s 28) (s 29) w) : Tr (s108_p3_den K (fun s w => B1 [s 2, s 5, s 16, s 17, s 18] w) (fun s w => B2 [s 2, s 5, s 7, s 16, s 17, s 18, s 27, s 28, s 29] w) s w) :=
  tr_simple (P := Tryz.prog) (codes := [(cd (Tryz.f108.body.getD .skip) [1, 1, 0, 1, 0, 0, 1, 1, 0, 0, 1, 1, 1, 0, 0, 1, 1, 1])]) (N := (fun s w => B2 [s 2, s 5, s 7, s 16, s 17, s 18, s 27, s 28, s 29] w)) (N' := (fun s w => B2 [s 2, s 5, s 7, s 16, s 17, s 18, s 27, s 28, s 29] w)) (X := (fun i => (bif Nat.beq i 2 then (fun s w => s108_p2 K B1 (s 2) (s 5) (s 16) (s 17) (s 18) w) else (bif Nat.beq i 1 then (fun s w => s108_p2 K B1 (s 2) (s 5) (s 16) (s 17) (s 18) w) else (bif Nat.beq i 0 then (fun s w => s108_p1 K w) else (fun _ _ => False)))))) (X' := (fun i => (bif Nat.beq i 2 then (s108_p2_den K (fun s w => B1 [s 2, s 5, s 16, s 17, s 18] w)) else (bif Nat.beq i 1 then (s108_p2_den K (fun s w => B1 [s 2, s 5, s 16, s 17, s 18] w)) else (bif Nat.beq i 0 then (s108_p1_den K) else (fun _ _ => False)))))) (R := s108_R K) (s := s) (w := w) (p := s108_p3 K B1 B2 (s 2) (s 5) (s 7) (s 16) (s 17) (s 18) (s 27) (s 28) (s 29) w) (q := s108_p3_den K (fun s w => B1 [s 2, s 5, s 16, s 17, s 18] w) (fun s w => B2 [s 2, s 5, s 7, s 16, s 17, s 18, s 27, s 28, s 29] w) s w) tr_id (fun i => (tr_bif (fun s w h => s108_p2_ok K B1 s w @h) (tr_bif (fun s w h => s108_p2_ok K B1 s w @h) (tr_bif (fun s w h => s108_p1_ok K s w @h) tr_id)))) (by kernel_rfl) (by kernel_rfl) @h
def s108_p4 (K : Value → World → Prop) (B1 : List Value → World → Prop) (B2 : List Value → World → Prop) (t2 t5 t7 t16 t17 t18 t27 t28 t29 t103 : Value) (w : World) : Prop :=
  ifb t103
  (K (.bool false) w)
  (s108_p3 K B1 B2 t2 t5 t7 t16 t17 t18 t27 t28 t29 w)
def s108_p4_den (K : Value → World → Prop) (M1 : (Nat → Value) → World → Prop) (M2 : (Nat → Value) → World → Prop) : (Nat → Value) → World → Prop := denL Tryz.prog [(cd (Tryz.f108.body.getD .skip) [1, 1, 0, 1, 0, 0, 1, 1, 0, 0, 1, 1, 1, 0, 0, 1, 1, 0, 0, 1, 1, 1, 1, 1, 0, 1, 1])] (s108_p3_den K M1 M2) (fun i => (bif Nat.beq i 3 then (s108_p3_den K M1 M2) else (bif Nat.beq i 2 then (s108_p2_den K M1) else (bif Nat.beq i 1 then (s108_p2_den K M1) else (bif Nat.beq i 0 then (s108_p1_den K) else (fun _ _ => False)))))) (s108_R K)
theorem s108_p4_ok (K : Value → World → Prop) (B1 : List Value → World → Prop) (B2 : List Value → World → Prop) (s : Nat → Value) (w : World) (h : s108_p4 K B1 B2 (s 2) (s 5) (s 7) (s 16) (s 17) (s 18) (s 27) (s 28) (s 29) (s 103) w) : Tr (s108_p4_den K (fun s w => B1 [s 2, s 5, s 16, s 17, s 18] w) (fun s w => B2 [s 2, s 5, s 7, s 16, s 17, s 18, s 27, s 28, s 29] w) s w) :=
  tr_simple (P := Tryz.prog) (codes := [(cd (Tryz.f108.body.getD .skip) [1, 1, 0, 1, 0, 0, 1, 1, 0, 0, 1, 1, 1, 0, 0, 1, 1, 0, 0, 1, 1, 1, 1, 1, 0, 1, 1])]) (N := (fun s w => s108_p3 K B1 B2 (s 2) (s 5) (s 7) (s 16) (s 17) (s 18) (s 27) (s 28) (s 29) w)) (N' := (s108_p3_den K (fun s w => B1 [s 2, s 5, s 16, s 17, s 18] w) (fun s w => B2 [s 2, s 5, s 7, s 16, s 17, s 18, s 27, s 28, s 29] w))) (X := (fun i => (bif Nat.beq i 3 then (fun s w => s108_p3 K B1 B2 (s 2) (s 5) (s 7) (s 16) (s 17) (s 18) (s 27) (s 28) (s 29) w) else (bif Nat.beq i 2 then (fun s w => s108_p2 K B1 (s 2) (s 5) (s 16) (s 17) (s 18) w) else (bif Nat.beq i 1 then (fun s w => s108_p2 K B1 (s 2) (s 5) (s 16) (s 17) (s 18) w) else (bif Nat.beq i 0 then (fun s w => s108_p1 K w) else (fun _ _ => False))))))) (X' := (fun i => (bif Nat.beq i 3 then (s108_p3_den K (fun s w => B1 [s 2, s 5, s 16, s 17, s 18] w) (fun s w => B2 [s 2, s 5, s 7, s 16, s 17, s 18, s 27, s 28, s 29] w)) else (bif Nat.beq i 2 then (s108_p2_den K (fun s w => B1 [s 2, s 5, s 16, s 17, s 18] w)) else (bif Nat.beq i 1 then (s108_p2_den K (fun s w => B1 [s 2, s 5, s 16, s 17, s 18] w)) else (bif Nat.beq i 0 then (s108_p1_den K) else (fun _ _ => False))))))) (R := s108_R K) (s := s) (w := w) (p := s108_p4 K B1 B2 (s 2) (s 5) (s 7) (s 16) (s 17) (s 18) (s 27) (s 28) (s 29) (s 103) w) (q := s108_p4_den K (fun s w => B1 [s 2, s 5, s 16, s 17, s 18] w) (fun s w => B2 [s 2, s 5, s 7, s 16, s 17, s 18, s 27, s 28, s 29] w) s w) (fun s w h => s108_p3_ok K B1 B2 s w @h) (fun i => (tr_bif (fun s w h => s108_p3_ok K B1 B2 s w @h) (tr_bif (fun s w h => s108_p2_ok K B1 s w @h) (tr_bif (fun s w h => s108_p2_ok K B1 s w @h) (tr_bif (fun s w h => s108_p1_ok K s w @h) tr_id))))) (by kernel_rfl) (by kernel_rfl) @h
def s108_p5_d (K : Value → World → Prop) (B1 : List Value → World → Prop) (B2 : List Value → World → Prop) (t2 t5 t7 t9 t10 t12 t16 t17 t18 t27 t28 t29 : Value) (w0 w : World) : Prop :=
  fd 1 t12 (fun t85 _ =>
  ld1 t85 (fun t86 _ =>
  fd 1 t9 (fun t87 _ =>
  ld1 t87 (fun t88 _ =>
  fd 1 t10 (fun t89 _ =>
  ld1 t89 (fun t90 _ =>
  boI .add t88 t90 (fun t91 _ =>
  fd 1 t2 (fun t92 _ =>
  ld1 t92 (fun t93 _ =>
  fd 0 t9 (fun t94 _ =>
  ld1 t94 (fun t95 _ =>
  ixs 1 t93 t95 (fun t96 _ =>
  ld1 t96 (fun t97 _ =>
  fd 0 t12 (fun t98 _ =>
  ld1 t98 (fun t99 _ =>
  ixs 1 t97 t99 (fun t100 _ =>
  ld1 t100 (fun t101 _ =>
  boI .add t91 t101 (fun t102 _ =>
  boI .lss t86 t102 (fun t103 _ =>
  s108_p4 K B1 B2 t2 t5 t7 t16 t17 t18 t27 t28 t29 t103 w) w0) w0) w0) w0) w0) w0) w0) w0) w0) w0) w0) w0) w0) w0) w0) w0) w0) w0) w0
def s108_p5 (K : Value → World → Prop) (B1 : List Value → World → Prop) (B2 : List Value → World → Prop) (t2 t5 t7 t9 t10 t12 t16 t17 t18 t27 t28 t29 : Value) (w : World) : Prop := s108_p5_d K B1 B2 t2 t5 t7 t9 t10 t12 t16 t17 t18 t27 t28 t29 (drw w) (drw w)
def s108_p5_den (K : Value → World → Prop) (M1 : (Nat → Value) → World → Prop) (M2 : (Nat → Value) → World → Prop) : (Nat → Value) → World → Prop := denL Tryz.prog [(cd (Tryz.f108.body.getD .skip) [1, 1, 0, 1, 0, 0, 1, 1, 0, 0, 1, 1, 1, 0, 0, 1, 1, 0, 0, 1, 1, 1, 1, 1, 0, 1, 0])] (s108_p4_den K M1 M2) (fun i => (bif Nat.beq i 3 then (s108_p3_den K M1 M2) else (bif Nat.beq i 2 then (s108_p2_den K M1) else (bif Nat.beq i 1 then (s108_p2_den K M1) else (bif Nat.beq i 0 then (s108_p1_den K) else (fun _ _ => False)))))) (s108_R K)
theorem s108_p5_ok (K : Value → World → Prop) (B1 : List Value → World → Prop) (B2 : List Value → World → Prop) (s : Nat → Value) (w : World) (h : s108_p5 K B1 B2 (s 2) (s 5) (s 7) (s 9) (s 10) (s 12) (s 16) (s 17) (s 18) (s 27) (s 28) (s 29) w) : Tr (s108_p5_den K (fun s w => B1 [s 2, s 5, s 16, s 17, s 18] w) (fun s w => B2 [s 2, s 5, s 7, s 16, s 17, s 18, s 27, s 28, s 29] w) s w) :=
  tr_draw (P := Tryz.prog) (ops := (ro (cd (Tryz.f108.body.getD .skip) [1, 1, 0, 1, 0, 0, 1, 1, 0, 0, 1, 1, 1, 0, 0, 1, 1, 0, 0, 1, 1, 1, 1, 1, 0, 1, 0]))) (ms := [0, 1, 0, 4, 0, 16, 60, 0, 128, 0, 512, 1920, 3968, 0, 8192, 32640, 65408, 131068, 262143]) (cs := [0, 1, 2, 3, 4, 5, 6, 7, 8, 9, 10, 11, 12, 13, 14, 15, 16, 17, 18]) (N := (fun s w => s108_p4 K B1 B2 (s 2) (s 5) (s 7) (s 16) (s 17) (s 18) (s 27) (s 28) (s 29) (s 103) w)) (N' := (s108_p4_den K (fun s w => B1 [s 2, s 5, s 16, s 17, s 18] w) (fun s w => B2 [s 2, s 5, s 7, s 16, s 17, s 18, s 27, s 28, s 29] w))) (s := s) (w := w) (p := s108_p5 K B1 B2 (s 2) (s 5) (s 7) (s 9) (s 10) (s 12) (s 16) (s 17) (s 18) (s 27) (s 28) (s 29) w) (q := s108_p5_den K (fun s w => B1 [s 2, s 5, s 16, s 17, s 18] w) (fun s w => B2 [s 2, s 5, s 7, s 16, s 17, s 18, s 27, s 28, s 29] w) s w) (by kernel_rfl) (by kernel_rfl) (fun s w h => s108_p4_ok K B1 B2 s w @h) (by kernel_rfl) (by kernel_rfl) @h
def s108_p6 (K : Value → World → Prop) (B1 : List Value → World → Prop) (B2 : List Value → World → Prop) (t2 t5 t7 t8 t9 t10 t16 t17 t18 t27 t28 t29 : Value) (w : World) : Prop :=
  fd 6 t7 (fun t79 w =>
  ld1 t79 (fun t80 w =>
  boI .add t8 (.int .i64 1) (fun t82 w =>
  ixs 2 t80 t82 (fun t83 w =>
  ldn 2 t83 (fun t84 w =>
  nw 116 #[(.int .i64 0), (.int .i64 0)] (fun t12 w =>
  stn 2 t12 t84 (fun w =>
  s108_p5 K B1 B2 t2 t5 t7 t9 t10 t12 t16 t17 t18 t27 t28 t29 w) w) w) w) w) w) w) w
def s108_p6_den (K : Value → World → Prop) (M1 : (Nat → Value) → World → Prop) (M2 : (Nat → Value) → World → Prop) : (Nat → Value) → World → Prop := denL Tryz.prog [(cd (Tryz.f108.body.getD .skip) [1, 1, 0, 1, 0, 0, 1, 1, 0, 0, 1, 1, 1, 0, 0, 1, 1, 0, 0, 1, 1, 1, 1, 1, 0, 0])] (s108_p5_den K M1 M2) (fun i => (bif Nat.beq i 3 then (s108_p3_den K M1 M2) else (bif Nat.beq i 2 then (s108_p2_den K M1) else (bif Nat.beq i 1 then (s108_p2_den K M1) else (bif Nat.beq i 0 then (s108_p1_den K) else (fun _ _ => False)))))) (s108_R K)
theorem s108_p6_ok (K : Value → World → Prop) (B1 : List Value → World → Prop) (B2 : List Value → World → Prop) (s : Nat → Value) (w : World) (h : s108_p6 K B1 B2 (s 2) (s 5) (s 7) (s 8) (s 9) (s 10) (s 16) (s 17) (s 18) (s 27) (s 28) (s 29) w) : Tr (s108_p6_den K (fun s w => B1 [s 2, s 5, s 16, s 17, s 18] w) (fun s w => B2 [s 2, s 5, s 7, s 16, s 17, s 18, s 27, s 28, s 29] w) s w) :=
  tr_simple (P := Tryz.prog) (codes := [(cd (Tryz.f108.body.getD .skip) [1, 1, 0, 1, 0, 0, 1, 1, 0, 0, 1, 1, 1, 0, 0, 1, 1, 0, 0, 1, 1, 1, 1, 1, 0, 0])]) (N := (fun s w => s108_p5 K B1 B2 (s 2) (s 5) (s 7) (s 9) (s 10) (s 12) (s 16) (s 17) (s 18) (s 27) (s 28) (s 29) w)) (N' := (s108_p5_den K (fun s w => B1 [s 2, s 5, s 16, s 17, s 18] w) (fun s w => B2 [s 2, s 5, s 7, s 16, s 17, s 18, s 27, s 28, s 29] w))) (X := (fun i => (bif Nat.beq i 3 then (fun s w => s108_p3 K B1 B2 (s 2) (s 5) (s 7) (s 16) (s 17) (s 18) (s 27) (s 28) (s 29) w) else (bif Nat.beq i 2 then (fun s w => s108_p2 K B1 (s 2) (s 5) (s 16) (s 17) (s 18) w) else (bif Nat.beq i 1 then (fun s w => s108_p2 K B1 (s 2) (s 5) (s 16) (s 17) (s 18) w) else (bif Nat.beq i 0 then (fun s w => s108_p1 K w) else (fun _ _ => False))))))) (X' := (fun i => (bif Nat.beq i 3 then (s108_p3_den K (fun s w => B1 [s 2, s 5, s 16, s 17, s 18] w) (fun s w => B2 [s 2, s 5, s 7, s 16, s 17, s 18, s 27, s 28, s 29] w)) else (bif Nat.beq i 2 then (s108_p2_den K (fun s w => B1 [s 2, s 5, s 16, s 17, s 18] w)) else (bif Nat.beq i 1 then (s108_p2_den K (fun s w => B1 [s 2, s 5, s 16, s 17, s 18] w)) else (bif Nat.beq i 0 then (s108_p1_den K) else (fun _ _ => False))))))) (R := s108_R K) (s := s) (w := w) (p := s108_p6 K B1 B2 (s 2) (s 5) (s 7) (s 8) (s 9) (s 10) (s 16) (s 17) (s 18) (s 27) (s 28) (s 29) w) (q := s108_p6_den K (fun s w => B1 [s 2, s 5, s 16, s 17, s 18] w) (fun s w => B2 [s 2, s 5, s 7, s 16, s 17, s 18, s 27, s 28, s 29] w) s w) (fun s w h => s108_p5_ok K B1 B2 s w @h) (fun i => (tr_bif (fun s w h => s108_p3_ok K B1 B2 s w @h) (tr_bif (fun s w h => s108_p2_ok K B1 s w @h) (tr_bif (fun s w h => s108_p2_ok K B1 s w @h) (tr_bif (fun s w h => s108_p1_ok K s w @h) tr_id))))) (by kernel_rfl) (by kernel_rfl) @h
def s108_p7 (K : Value → World → Prop) (B1 : List Value → World → Prop) (B2 : List Value → World → Prop) (t2 t5 t7 t8 t9 t10 t16 t17 t18 t27 t28 t29 t78 : Value) (w : World) : Prop :=
  ifb t78
  (s108_p6 K B1 B2 t2 t5 t7 t8 t9 t10 t16 t17 t18 t27 t28 t29 w)
  (s108_p3 K B1 B2 t2 t5 t7 t16 t17 t18 t27 t28 t29 w)
def s108_p7_den (K : Value → World → Prop) (M1 : (Nat → Value) → World → Prop) (M2 : (Nat → Value) → World → Prop) : (Nat → Value) → World → Prop := fun s w => ifb (ev s (.tmp 78)) ((s108_p6_den K M1 M2) s w) ((s108_p3_den K M1 M2) s w)
theorem s108_p7_ok (K : Value → World → Prop) (B1 : List Value → World → Prop) (B2 : List Value → World → Prop) (s : Nat → Value) (w : World) (h : s108_p7 K B1 B2 (s 2) (s 5) (s 7) (s 8) (s 9) (s 10) (s 16) (s 17) (s 18) (s 27) (s 28) (s 29) (s 78) w) : Tr (s108_p7_den K (fun s w => B1 [s 2, s 5, s 16, s 17, s 18] w) (fun s w => B2 [s 2, s 5, s 7, s 16, s 17, s 18, s 27, s 28, s 29] w) s w) :=
  tr_cond (v := ev s (.tmp 78)) (a := (fun s w => s108_p6 K B1 B2 (s 2) (s 5) (s 7) (s 8) (s 9) (s 10) (s 16) (s 17) (s 18) (s 27) (s 28) (s 29) w) s w) (a' := (s108_p6_den K (fun s w => B1 [s 2, s 5, s 16, s 17, s 18] w) (fun s w => B2 [s 2, s 5, s 7, s 16, s 17, s 18, s 27, s 28, s 29] w)) s w) (b := (fun s w => s108_p3 K B1 B2 (s 2) (s 5) (s 7) (s 16) (s 17) (s 18) (s 27) (s 28) (s 29) w) s w) (b' := (s108_p3_den K (fun s w => B1 [s 2, s 5, s 16, s 17, s 18] w) (fun s w => B2 [s 2, s 5, s 7, s 16, s 17, s 18, s 27, s 28, s 29] w)) s w) (p := s108_p7 K B1 B2 (s 2) (s 5) (s 7) (s 8) (s 9) (s 10) (s 16) (s 17) (s 18) (s 27) (s 28) (s 29) (s 78) w) (q := s108_p7_den K (fun s w => B1 [s 2, s 5, s 16, s 17, s 18] w) (fun s w => B2 [s 2, s 5, s 7, s 16, s 17, s 18, s 27, s 28, s 29] w) s w) ((fun s w h => s108_p6_ok K B1 B2 s w @h) s w) ((fun s w h => s108_p3_ok K B1 B2 s w @h) s w) (by kernel_rfl) (by kernel_rfl) @h
def s108_p8 (K : Value → World → Prop) (B1 : List Value → World → Prop) (B2 : List Value → World → Prop) (t2 t5 t7 t8 t9 t10 t16 t17 t18 t27 t28 t29 t72 : Value) (w : World) : Prop :=
  ifb t72
  (K (.bool false) w)
  (boI .add t8 (.int .i64 1) (fun t74 w =>
  fd 6 t7 (fun t75 w =>
  ld1 t75 (fun t76 w =>
  lnS t76 (fun t77 w =>
  boI .lss t74 t77 (fun t78 w =>
  s108_p7 K B1 B2 t2 t5 t7 t8 t9 t10 t16 t17 t18 t27 t28 t29 t78 w) w) w) w) w) w)
def s108_p8_den (K : Value → World → Prop) (M1 : (Nat → Value) → World → Prop) (M2 : (Nat → Value) → World → Prop) : (Nat → Value) → World → Prop := denL Tryz.prog [(cd (Tryz.f108.body.getD .skip) [1, 1, 0, 1, 0, 0, 1, 1, 0, 0, 1, 1, 1, 0, 0, 1, 1, 0, 0, 1, 1, 1, 0, 1]), (cd (Tryz.f108.body.getD .skip) [1, 1, 0, 1, 0, 0, 1, 1, 0, 0, 1, 1, 1, 0, 0, 1, 1, 0, 0, 1, 1, 1, 1, 0])] (s108_p7_den K M1 M2) (fun i => (bif Nat.beq i 3 then (s108_p3_den K M1 M2) else (bif Nat.beq i 2 then (s108_p2_den K M1) else (bif Nat.beq i 1 then (s108_p2_den K M1) else (bif Nat.beq i 0 then (s108_p1_den K) else (fun _ _ => False)))))) (s108_R K)
theorem s108_p8_ok (K : Value → World → Prop) (B1 : List Value → World → Prop) (B2 : List Value → World → Prop) (s : Nat → Value) (w : World) (h : s108_p8 K B1 B2 (s 2) (s 5) (s 7) (s 8) (s 9) (s 10) (s 16) (s 17) (s 18) (s 27) (s 28) (s 29) (s 72) w) : Tr (s108_p8_den K (fun s w => B1 [s 2, s 5, s 16, s 17, s 18] w) (fun s w => B2 [s 2, s 5, s 7, s 16, s 17, s 18, s 27, s 28, s 29] w) s w) :=
  tr_simple (P := Tryz.prog) (codes := [(cd (Tryz.f108.body.getD .skip) [1, 1, 0, 1, 0, 0, 1, 1, 0, 0, 1, 1, 1, 0, 0, 1, 1, 0, 0, 1, 1, 1, 0, 1]), (cd (Tryz.f108.body.getD .skip) [1, 1, 0, 1, 0, 0, 1, 1, 0, 0, 1, 1, 1, 0, 0, 1, 1, 0, 0, 1, 1, 1, 1, 0])]) (N := (fun s w => s108_p7 K B1 B2 (s 2) (s 5) (s 7) (s 8) (s 9) (s 10) (s 16) (s 17) (s 18) (s 27) (s 28) (s 29) (s 78) w)) (N' := (s108_p7_den K (fun s w => B1 [s 2, s 5, s 16, s 17, s 18] w) (fun s w => B2 [s 2, s 5, s 7, s 16, s 17, s 18, s 27, s 28, s 29] w))) (X := (fun i => (bif Nat.beq i 3 then (fun s w => s108_p3 K B1 B2 (s 2) (s 5) (s 7) (s 16) (s 17) (s 18) (s 27) (s 28) (s 29) w) else (bif Nat.beq i 2 then (fun s w => s108_p2 K B1 (s 2) (s 5) (s 16) (s 17) (s 18) w) else (bif Nat.beq i 1 then (fun s w => s108_p2 K B1 (s 2) (s 5) (s 16) (s 17) (s 18) w) else (bif Nat.beq i 0 then (fun s w => s108_p1 K w) else (fun _ _ => False))))))) (X' := (fun i => (bif Nat.beq i 3 then (s108_p3_den K (fun s w => B1 [s 2, s 5, s 16, s 17, s 18] w) (fun s w => B2 [s 2, s 5, s 7, s 16, s 17, s 18, s 27, s 28, s 29] w)) else (bif Nat.beq i 2 then (s108_p2_den K (fun s w => B1 [s 2, s 5, s 16, s 17, s 18] w)) else (bif Nat.beq i 1 then (s108_p2_den K (fun s w => B1 [s 2, s 5, s 16, s 17, s 18] w)) else (bif Nat.beq i 0 then (s108_p1_den K) else (fun _ _ => False))))))) (R := s108_R K) (s := s) (w := w) (p := s108_p8 K B1 B2 (s 2) (s 5) (s 7) (s 8) (s 9) (s 10) (s 16) (s 17) (s 18) (s 27) (s 28) (s 29) (s 72) w) (q := s108_p8_den K (fun s w => B1 [s 2, s 5, s 16, s 17, s 18] w) (fun s w => B2 [s 2, s 5, s 7, s 16, s 17, s 18, s 27, s 28, s 29] w) s w) (fun s w h => s108_p7_ok K B1 B2 s w @h) (fun i => (tr_bif (fun s w h => s108_p3_ok K B1 B2 s w @h) (tr_bif (fun s w h => s108_p2_ok K B1 s w @h) (tr_bif (fun s w h => s108_p2_ok K B1 s w @h) (tr_bif (fun s w h => s108_p1_ok K s w @h) tr_id))))) (by kernel_rfl) (by kernel_rfl) @h
def s108_p9_d (K : Value → World → Prop) (B1 : List Value → World → Prop) (B2 : List Value → World → Prop) (t2 t5 t7 t8 t9 t10 t16 t17 t18 t27 t28 t29 : Value) (w0 w : World) : Prop :=
  fd 0 t9 (fun t60 _ =>
  ld1 t60 (fun t61 _ =>
  fd 1 t9 (fun t62 _ =>
  ld1 t62 (fun t63 _ =>
  fd 2 t7 (fun t64 _ =>
  ld1 t64 (fun t65 _ =>
  fd 2 t7 (fun t67 _ =>
  ld1 t67 (fun t68 _ =>
  fd 2 t10 (fun t69 _ =>
  ixa 3 1 t69 t68 (fun t70 _ =>
  ld1 t70 (fun t71 _ =>
  cl Tryz.prog 137 #[t5, t61, t63, t65] (fun t66 w =>
  Below w0.heap.size w0 w ∧
  boI .gtr t66 t71 (fun t72 w =>
  s108_p8 K B1 B2 t2 t5 t7 t8 t9 t10 t16 t17 t18 t27 t28 t29 t72 w) w) w) w0) w0) w0) w0) w0) w0) w0) w0) w0) w0) w0
def s108_p9 (K : Value → World → Prop) (B1 : List Value → World → Prop) (B2 : List Value → World → Prop) (t2 t5 t7 t8 t9 t10 t16 t17 t18 t27 t28 t29 : Value) (w : World) : Prop := s108_p9_d K B1 B2 t2 t5 t7 t8 t9 t10 t16 t17 t18 t27 t28 t29 (drw w) (drw w)
def s108_p9_den (K : Value → World → Prop) (M1 : (Nat → Value) → World → Prop) (M2 : (Nat → Value) → World → Prop) : (Nat → Value) → World → Prop := denL Tryz.prog [(cd (Tryz.f108.body.getD .skip) [1, 1, 0, 1, 0, 0, 1, 1, 0, 0, 1, 1, 1, 0, 0, 1, 1, 0, 0, 1, 1, 1, 0, 0])] (s108_p8_den K M1 M2) (fun i => (bif Nat.beq i 3 then (s108_p3_den K M1 M2) else (bif Nat.beq i 2 then (s108_p2_den K M1) else (bif Nat.beq i 1 then (s108_p2_den K M1) else (bif Nat.beq i 0 then (s108_p1_den K) else (fun _ _ => False)))))) (s108_R K)
theorem s108_p9_ok (K : Value → World → Prop) (B1 : List Value → World → Prop) (B2 : List Value → World → Prop) (s : Nat → Value) (w : World) (h : s108_p9 K B1 B2 (s 2) (s 5) (s 7) (s 8) (s 9) (s 10) (s 16) (s 17) (s 18) (s 27) (s 28) (s 29) w) : Tr (s108_p9_den K (fun s w => B1 [s 2, s 5, s 16, s 17, s 18] w) (fun s w => B2 [s 2, s 5, s 7, s 16, s 17, s 18, s 27, s 28, s 29] w) s w) :=
  tr_draw (P := Tryz.prog) (ops := (ro (cd (Tryz.f108.body.getD .skip) [1, 1, 0, 1, 0, 0, 1, 1, 0, 0, 1, 1, 1, 0, 0, 1, 1, 0, 0, 1, 1, 1, 0, 0]))) (ms := [0, 0, 2, 0, 8, 0, 32, 127, 0, 256, 0, 1792, 3840, 8191]) (cs := [0, 1, 2, 3, 4, 5, 6, 8, 9, 10, 11, 12]) (N := (fun s w => s108_p8 K B1 B2 (s 2) (s 5) (s 7) (s 8) (s 9) (s 10) (s 16) (s 17) (s 18) (s 27) (s 28) (s 29) (s 72) w)) (N' := (s108_p8_den K (fun s w => B1 [s 2, s 5, s 16, s 17, s 18] w) (fun s w => B2 [s 2, s 5, s 7, s 16, s 17, s 18, s 27, s 28, s 29] w))) (s := s) (w := w) (p := s108_p9 K B1 B2 (s 2) (s 5) (s 7) (s 8) (s 9) (s 10) (s 16) (s 17) (s 18) (s 27) (s 28) (s 29) w) (q := s108_p9_den K (fun s w => B1 [s 2, s 5, s 16, s 17, s 18] w) (fun s w => B2 [s 2, s 5, s 7, s 16, s 17, s 18, s 27, s 28, s 29] w) s w) (by kernel_rfl) (by kernel_rfl) (fun s w h => s108_p8_ok K B1 B2 s w @h) (by kernel_rfl) (by kernel_rfl) @h
def s108_p10 (K : Value → World → Prop) (B1 : List Value → World → Prop) (B2 : List Value → World → Prop) (B3 : List Value → World → Prop) (t2 t5 t7 t8 t9 t10 t11 t16 t17 t18 t27 t28 t29 : Value) (w : World) : Prop :=
  boI .add t11 (.int .i64 1) (fun t50 w =>
  B3 [t2, t5, t7, t8, t9, t10, t50, t16, t17, t18, t27, t28, t29] w) w
def s108_p10_den (K : Value → World → Prop) (M1 : (Nat → Value) → World → Prop) (M2 : (Nat → Value) → World → Prop) (M3 : (Nat → Value) → World → Prop) : (Nat → Value) → World → Prop := denL Tryz.prog [(cd (Tryz.f108.body.getD .skip) [1, 1, 0, 1, 0, 0, 1, 1, 0, 0, 1, 1, 1, 0, 0, 1, 1, 0, 0, 1, 1, 0, 1, 0, 0, 1, 1])] M3 (fun i => (bif Nat.beq i 4 then (s108_p9_den K M1 M2) else (bif Nat.beq i 3 then (s108_p3_den K M1 M2) else (bif Nat.beq i 2 then (s108_p2_den K M1) else (bif Nat.beq i 1 then (s108_p2_den K M1) else (bif Nat.beq i 0 then (s108_p1_den K) else (fun _ _ => False))))))) (s108_R K)
theorem s108_p10_ok (K : Value → World → Prop) (B1 : List Value → World → Prop) (B2 : List Value → World → Prop) (B3 : List Value → World → Prop) (s : Nat → Value) (w : World) (h : s108_p10 K B1 B2 B3 (s 2) (s 5) (s 7) (s 8) (s 9) (s 10) (s 11) (s 16) (s 17) (s 18) (s 27) (s 28) (s 29) w) : Tr (s108_p10_den K (fun s w => B1 [s 2, s 5, s 16, s 17, s 18] w) (fun s w => B2 [s 2, s 5, s 7, s 16, s 17, s 18, s 27, s 28, s 29] w) (fun s w => B3 [s 2, s 5, s 7, s 8, s 9, s 10, s 11, s 16, s 17, s 18, s 27, s 28, s 29] w) s w) :=
  tr_simple (P := Tryz.prog) (codes := [(cd (Tryz.f108.body.getD .skip) [1, 1, 0, 1, 0, 0, 1, 1, 0, 0, 1, 1, 1, 0, 0, 1, 1, 0, 0, 1, 1, 0, 1, 0, 0, 1, 1])]) (N := (fun s w => B3 [s 2, s 5, s 7, s 8, s 9, s 10, s 11, s 16, s 17, s 18, s 27, s 28, s 29] w)) (N' := (fun s w => B3 [s 2, s 5, s 7, s 8, s 9, s 10, s 11, s 16, s 17, s 18, s 27, s 28, s 29] w)) (X := (fun i => (bif Nat.beq i 4 then (fun s w => s108_p9 K B1 B2 (s 2) (s 5) (s 7) (s 8) (s 9) (s 10) (s 16) (s 17) (s 18) (s 27) (s 28) (s 29) w) else (bif Nat.beq i 3 then (fun s w => s108_p3 K B1 B2 (s 2) (s 5) (s 7) (s 16) (s 17) (s 18) (s 27) (s 28) (s 29) w) else (bif Nat.beq i 2 then (fun s w => s108_p2 K B1 (s 2) (s 5) (s 16) (s 17) (s 18) w) else (bif Nat.beq i 1 then (fun s w => s108_p2 K B1 (s 2) (s 5) (s 16) (s 17) (s 18) w) else (bif Nat.beq i 0 then (fun s w => s108_p1 K w) else (fun _ _ => False)))))))) (X' := (fun i => (bif Nat.beq i 4 then (s108_p9_den K (fun s w => B1 [s 2, s 5, s 16, s 17, s 18] w) (fun s w => B2 [s 2, s 5, s 7, s 16, s 17, s 18, s 27, s 28, s 29] w)) else (bif Nat.beq i 3 then (s108_p3_den K (fun s w => B1 [s 2, s 5, s 16, s 17, s 18] w) (fun s w => B2 [s 2, s 5, s 7, s 16, s 17, s 18, s 27, s 28, s 29] w)) else (bif Nat.beq i 2 then (s108_p2_den K (fun s w => B1 [s 2, s 5, s 16, s 17, s 18] w)) else (bif Nat.beq i 1 then (s108_p2_den K (fun s w => B1 [s 2, s 5, s 16, s 17, s 18] w)) else (bif Nat.beq i 0 then (s108_p1_den K) else (fun _ _ => False)))))))) (R := s108_R K) (s := s) (w := w) (p := s108_p10 K B1 B2 B3 (s 2) (s 5) (s 7) (s 8) (s 9) (s 10) (s 11) (s 16) (s 17) (s 18) (s 27) (s 28) (s 29) w) (q := s108_p10_den K (fun s w => B1 [s 2, s 5, s 16, s 17, s 18] w) (fun s w => B2 [s 2, s 5, s 7, s 16, s 17, s 18, s 27, s 28, s 29] w) (fun s w => B3 [s 2, s 5, s 7, s 8, s 9, s 10, s 11, s 16, s 17, s 18, s 27, s 28, s 29] w) s w) tr_id (fun i => (tr_bif (fun s w h => s108_p9_ok K B1 B2 s w @h) (tr_bif (fun s w h => s108_p3_ok K B1 B2 s w @h) (tr_bif (fun s w h => s108_p2_ok K B1 s w @h) (tr_bif (fun s w h => s108_p2_ok K B1 s w @h) (tr_bif (fun s w h => s108_p1_ok K s w @h) tr_id)))))) (by kernel_rfl) (by kernel_rfl) @h
def s108_p11 (K : Value → World → Prop) (B1 : List Value → World → Prop) (B2 : List Value → World → Prop) (B3 : List Value → World → Prop) (t2 t5 t7 t8 t9 t10 t11 t16 t17 t18 t27 t28 t29 t58 : Value) (w : World) : Prop :=
  ifb t58
  (K (.bool false) w)
  (s108_p10 K B1 B2 B3 t2 t5 t7 t8 t9 t10 t11 t16 t17 t18 t27 t28 t29 w)
def s108_p11_den (K : Value → World → Prop) (M1 : (Nat → Value) → World → Prop) (M2 : (Nat → Value) → World → Prop) (M3 : (Nat → Value) → World → Prop) : (Nat → Value) → World → Prop := denL Tryz.prog [(cd (Tryz.f108.body.getD .skip) [1, 1, 0, 1, 0, 0, 1, 1, 0, 0, 1, 1, 1, 0, 0, 1, 1, 0, 0, 1, 1, 0, 1, 0, 0, 1, 0, 0, 1])] (s108_p10_den K M1 M2 M3) (fun i => (bif Nat.beq i 5 then (s108_p10_den K M1 M2 M3) else (bif Nat.beq i 4 then (s108_p9_den K M1 M2) else (bif Nat.beq i 3 then (s108_p3_den K M1 M2) else (bif Nat.beq i 2 then (s108_p2_den K M1) else (bif Nat.beq i 1 then (s108_p2_den K M1) else (bif Nat.beq i 0 then (s108_p1_den K) else (fun _ _ => False)))))))) (s108_R K)
theorem s108_p11_ok (K : Value → World → Prop) (B1 : List Value → World → Prop) (B2 : List Value → World → Prop) (B3 : List Value → World → Prop) (s : Nat → Value) (w : World) (h : s108_p11 K B1 B2 B3 (s 2) (s 5) (s 7) (s 8) (s 9) (s 10) (s 11) (s 16) (s 17) (s 18) (s 27) (s 28) (s 29) (s 58) w) : Tr (s108_p11_den K (fun s w => B1 [s 2, s 5, s 16, s 17, s 18] w) (fun s w => B2 [s 2, s 5, s 7, s 16, s 17, s 18, s 27, s 28, s 29] w) (fun s w => B3 [s 2, s 5, s 7, s 8, s 9, s 10, s 11, s 16, s 17, s 18, s 27, s 28, s 29] w) s w) :=
  tr_simple (P := Tryz.prog) (codes := [(cd (Tryz.f108.body.getD .skip) [1, 1, 0, 1, 0, 0, 1, 1, 0, 0, 1, 1, 1, 0, 0, 1, 1, 0, 0, 1, 1, 0, 1, 0, 0, 1, 0, 0, 1])]) (N := (fun s w => s108_p10 K B1 B2 B3 (s 2) (s 5) (s 7) (s 8) (s 9) (s 10) (s 11) (s 16) (s 17) (s 18) (s 27) (s 28) (s 29) w)) (N' := (s108_p10_den K (fun s w => B1 [s 2, s 5, s 16, s 17, s 18] w) (fun s w => B2 [s 2, s 5, s 7, s 16, s 17, s 18, s 27, s 28, s 29] w) (fun s w => B3 [s 2, s 5, s 7, s 8, s 9, s 10, s 11, s 16, s 17, s 18, s 27, s 28, s 29] w))) (X := (fun i => (bif Nat.beq i 5 then (fun s w => s108_p10 K B1 B2 B3 (s 2) (s 5) (s 7) (s 8) (s 9) (s 10) (s 11) (s 16) (s 17) (s 18) (s 27) (s 28) (s 29) w) else (bif Nat.beq i 4 then (fun s w => s108_p9 K B1 B2 (s 2) (s 5) (s 7) (s 8) (s 9) (s 10) (s 16) (s 17) (s 18) (s 27) (s 28) (s 29) w) else (bif Nat.beq i 3 then (fun s w => s108_p3 K B1 B2 (s 2) (s 5) (s 7) (s 16) (s 17) (s 18) (s 27) (s 28) (s 29) w) else (bif Nat.beq i 2 then (fun s w => s108_p2 K B1 (s 2) (s 5) (s 16) (s 17) (s 18) w) else (bif Nat.beq i 1 then (fun s w => s108_p2 K B1 (s 2) (s 5) (s 16) (s 17) (s 18) w) else (bif Nat.beq i 0 then (fun s w => s108_p1 K w) else (fun _ _ => False))))))))) (X' := (fun i => (bif Nat.beq i 5 then (s108_p10_den K (fun s w => B1 [s 2, s 5, s 16, s 17, s 18] w) (fun s w => B2 [s 2, s 5, s 7, s 16, s 17, s 18, s 27, s 28, s 29] w) (fun s w => B3 [s 2, s 5, s 7, s 8, s 9, s 10, s 11, s 16, s 17, s 18, s 27, s 28, s 29] w)) else (bif Nat.beq i 4 then (s108_p9_den K (fun s w => B1 [s 2, s 5, s 16, s 17, s 18] w) (fun s w => B2 [s 2, s 5, s 7, s 16, s 17, s 18, s 27, s 28, s 29] w)) else (bif Nat.beq i 3 then (s108_p3_den K (fun s w => B1 [s 2, s 5, s 16, s 17, s 18] w) (fun s w => B2 [s 2, s 5, s 7, s 16, s 17, s 18, s 27, s 28, s 29] w)) else (bif Nat.beq i 2 then (s108_p2_den K (fun s w => B1 [s 2, s 5, s 16, s 17, s 18] w)) else (bif Nat.beq i 1 then (s108_p2_den K (fun s w => B1 [s 2, s 5, s 16, s 17, s 18] w)) else (bif Nat.beq i 0 then (s108_p1_den K) else (fun _ _ => False))))))))) (R := s108_R K) (s := s) (w := w) (p := s108_p11 K B1 B2 B3 (s 2) (s 5) (s 7) (s 8) (s 9) (s 10) (s 11) (s 16) (s 17) (s 18) (s 27) (s 28) (s 29) (s 58) w) (q := s108_p11_den K (fun s w => B1 [s 2, s 5, s 16, s 17, s 18] w) (fun s w => B2 [s 2, s 5, s 7, s 16, s 17, s 18, s 27, s 28, s 29] w) (fun s w => B3 [s 2, s 5, s 7, s 8, s 9, s 10, s 11, s 16, s 17, s 18, s 27, s 28, s 29] w) s w) (fun s w h => s108_p10_ok K B1 B2 B3 s w @h) (fun i => (tr_bif (fun s w h => s108_p10_ok K B1 B2 B3 s w @h) (tr_bif (fun s w h => s108_p9_ok K B1 B2 s w @h) (tr_bif (fun s w h => s108_p3_ok K B1 B2 s w @h) (tr_bif (fun s w h => s108_p2_ok K B1 s w @h) (tr_bif (fun s w h => s108_p2_ok K B1 s w @h) (tr_bif (fun s w h => s108_p1_ok K s w @h) tr_id))))))) (by kernel_rfl) (by kernel_rfl) @h
def s108_p12_d (K : Value → World → Prop) (B1 : List Value → World → Prop) (B2 : List Value → World → Prop) (B3 : List Value → World → Prop) (t2 t5 t7 t8 t9 t10 t11 t16 t17 t18 t27 t28 t29 : Value) (w0 w : World) : Prop :=
  fd 0 t9 (fun t52 _ =>
  ld1 t52 (fun t53 _ =>
  fd 0 t10 (fun t56 _ =>
  ld1 t56 (fun t57 _ =>
  cl Tryz.prog 136 #[t5, t53, t11] (fun t55 w =>
  Below w0.heap.size w0 w ∧
  boI .gtr t55 t57 (fun t58 w =>
  s108_p11 K B1 B2 B3 t2 t5 t7 t8 t9 t10 t11 t16 t17 t18 t27 t28 t29 t58 w) w) w) w0) w0) w0) w0
def s108_p12 (K : Value → World → Prop) (B1 : List Value → World → Prop) (B2 : List Value → World → Prop) (B3 : List Value → World → Prop) (t2 t5 t7 t8 t9 t10 t11 t16 t17 t18 t27 t28 t29 : Value) (w : World) : Prop := s108_p12_d K B1 B2 B3 t2 t5 t7 t8 t9 t10 t11 t16 t17 t18 t27 t28 t29 (drw w) (drw w)
def s108_p12_den (K : Value → World → Prop) (M1 : (Nat → Value) → World → Prop) (M2 : (Nat → Value) → World → Prop) (M3 : (Nat → Value) → World → Prop) : (Nat → Value) → World → Prop := denL Tryz.prog [(cd (Tryz.f108.body.getD .skip) [1, 1, 0, 1, 0, 0, 1, 1, 0, 0, 1, 1, 1, 0, 0, 1, 1, 0, 0, 1, 1, 0, 1, 0, 0, 1, 0, 0, 0])] (s108_p11_den K M1 M2 M3) (fun i => (bif Nat.beq i 5 then (s108_p10_den K M1 M2 M3) else (bif Nat.beq i 4 then (s108_p9_den K M1 M2) else (bif Nat.beq i 3 then (s108_p3_den K M1 M2) else (bif Nat.beq i 2 then (s108_p2_den K M1) else (bif Nat.beq i 1 then (s108_p2_den K M1) else (bif Nat.beq i 0 then (s108_p1_den K) else (fun _ _ => False)))))))) (s108_R K)
theorem s108_p12_ok (K : Value → World → Prop) (B1 : List Value → World → Prop) (B2 : List Value → World → Prop) (B3 : List Value → World → Prop) (s : Nat → Value) (w : World) (h : s108_p12 K B1 B2 B3 (s 2) (s 5) (s 7) (s 8) (s 9) (s 10) (s 11) (s 16) (s 17) (s 18) (s 27) (s 28) (s 29) w) : Tr (s108_p12_den K (fun s w => B1 [s 2, s 5, s 16, s 17, s 18] w) (fun s w => B2 [s 2, s 5, s 7, s 16, s 17, s 18, s 27, s 28, s 29] w) (fun s w => B3 [s 2, s 5, s 7, s 8, s 9, s 10, s 11, s 16, s 17, s 18, s 27, s 28, s 29] w) s w) :=
  tr_draw (P := Tryz.prog) (ops := (ro (cd (Tryz.f108.body.getD .skip) [1, 1, 0, 1, 0, 0, 1, 1, 0, 0, 1, 1, 1, 0, 0, 1, 1, 0, 0, 1, 1, 0, 1, 0, 0, 1, 0, 0, 0]))) (ms := [0, 0, 2, 0, 15, 0, 32, 127]) (cs := [0, 1, 2, 3, 5, 6]) (N := (fun s w => s108_p11 K B1 B2 B3 (s 2) (s 5) (s 7) (s 8) (s 9) (s 10) (s 11) (s 16) (s 17) (s 18) (s 27) (s 28) (s 29) (s 58) w)) (N' := (s108_p11_den K (fun s w => B1 [s 2, s 5, s 16, s 17, s 18] w) (fun s w => B2 [s 2, s 5, s 7, s 16, s 17, s 18, s 27, s 28, s 29] w) (fun s w => B3 [s 2, s 5, s 7, s 8, s 9, s 10, s 11, s 16, s 17, s 18, s 27, s 28, s 29] w))) (s := s) (w := w) (p := s108_p12 K B1 B2 B3 (s 2) (s 5) (s 7) (s 8) (s 9) (s 10) (s 11) (s 16) (s 17) (s 18) (s 27) (s 28) (s 29) w) (q := s108_p12_den K (fun s w => B1 [s 2, s 5, s 16, s 17, s 18] w) (fun s w => B2 [s 2, s 5, s 7, s 16, s 17, s 18, s 27, s 28, s 29] w) (fun s w => B3 [s 2, s 5, s 7, s 8, s 9, s 10, s 11, s 16, s 17, s 18, s 27, s 28, s 29] w) s w) (by kernel_rfl) (by kernel_rfl) (fun s w h => s108_p11_ok K B1 B2 B3 s w @h) (by kernel_rfl) (by kernel_rfl) @h
def s108_p13 (K : Value → World → Prop) (B1 : List Value → World → Prop) (B2 : List Value → World → Prop) (B3 : List Value → World → Prop) (t2 t5 t7 t8 t9 t10 t11 t16 t17 t18 t27 t28 t29 : Value) (w : World) : Prop :=
  fd 1 t9 (fun t43 w =>
  ld1 t43 (fun t44 w =>
  fd 1 t10 (fun t45 w =>
  ld1 t45 (fun t46 w =>
  boI .add t44 t46 (fun t47 w =>
  boI .lss t11 t47 (fun t48 w =>
  ifb t48
  (s108_p12 K B1 B2 B3 t2 t5 t7 t8 t9 t10 t11 t16 t17 t18 t27 t28 t29 w)
  (s108_p9 K B1 B2 t2 t5 t7 t8 t9 t10 t16 t17 t18 t27 t28 t29 w)) w) w) w) w) w) w
def s108_p13_den (K : Value → World → Prop) (M1 : (Nat → Value) → World → Prop) (M2 : (Nat → Value) → World → Prop) (M3 : (Nat → Value) → World → Prop) : (Nat → Value) → World → Prop := denL Tryz.prog [(cd (Tryz.f108.body.getD .skip) [1, 1, 0, 1, 0, 0, 1, 1, 0, 0, 1, 1, 1, 0, 0, 1, 1, 0, 0, 1, 1, 0, 1, 0, 0, 0, 0]), (cd (Tryz.f108.body.getD .skip) [1, 1, 0, 1, 0, 0, 1, 1, 0, 0, 1, 1, 1, 0, 0, 1, 1, 0, 0, 1, 1, 0, 1, 0, 0, 0, 1])] (s108_p12_den K M1 M2 M3) (fun i => (bif Nat.beq i 4 then (s108_p9_den K M1 M2) else (bif Nat.beq i 3 then (s108_p3_den K M1 M2) else (bif Nat.beq i 2 then (s108_p2_den K M1) else (bif Nat.beq i 1 then (s108_p2_den K M1) else (bif Nat.beq i 0 then (s108_p1_den K) else (fun _ _ => False))))))) (s108_R K)
theorem s108_p13_ok (K : Value → World → Prop) (B1 : List Value → World → Prop) (B2 : List Value → World → Prop) (B3 : List Value → World → Prop) (s : Nat → Value) (w : World) (h : s108_p13 K B1 B2 B3 (s 2) (s 5) (s 7) (s 8) (s 9) (s 10) (s 11) (s 16) (s 17) (s 18) (s 27) (s 28) (s 29) w) : Tr (s108_p13_den K (fun s w => B1 [s 2, s 5, s 16, s 17, s 18] w) (fun s w => B2 [s 2, s 5, s 7, s 16, s 17, s 18, s 27, s 28, s 29] w) (fun s w => B3 [s 2, s 5, s 7, s 8, s 9, s 10, s 11, s 16, s 17, s 18, s 27, s 28, s 29] w) s w) :=
  tr_simple (P := Tryz.prog) (codes := [(cd (Tryz.f108.body.getD .skip) [1, 1, 0, 1, 0, 0, 1, 1, 0, 0, 1, 1, 1, 0, 0, 1, 1, 0, 0, 1, 1, 0, 1, 0, 0, 0, 0]), (cd (Tryz.f108.body.getD .skip) [1, 1, 0, 1, 0, 0, 1, 1, 0, 0, 1, 1, 1, 0, 0, 1, 1, 0, 0, 1, 1, 0, 1, 0, 0, 0, 1])]) (N := (fun s w => s108_p12 K B1 B2 B3 (s 2) (s 5) (s 7) (s 8) (s 9) (s 10) (s 11) (s 16) (s 17) (s 18) (s 27) (s 28) (s 29) w)) (N' := (s108_p12_den K (fun s w => B1 [s 2, s 5, s 16, s 17, s 18] w) (fun s w => B2 [s 2, s 5, s 7, s 16, s 17, s 18, s 27, s 28, s 29] w) (fun s w => B3 [s 2, s 5, s 7, s 8, s 9, s 10, s 11, s 16, s 17, s 18, s 27, s 28, s 29] w))) (X := (fun i => (bif Nat.beq i 4 then (fun s w => s108_p9 K B1 B2 (s 2) (s 5) (s 7) (s 8) (s 9) (s 10) (s 16) (s 17) (s 18) (s 27) (s 28) (s 29) w) else (bif Nat.beq i 3 then (fun s w => s108_p3 K B1 B2 (s 2) (s 5) (s 7) (s 16) (s 17) (s 18) (s 27) (s 28) (s 29) w) else (bif Nat.beq i 2 then (fun s w => s108_p2 K B1 (s 2) (s 5) (s 16) (s 17) (s 18) w) else (bif Nat.beq i 1 then (fun s w => s108_p2 K B1 (s 2) (s 5) (s 16) (s 17) (s 18) w) else (bif Nat.beq i 0 then (fun s w => s108_p1 K w) else (fun _ _ => False)))))))) (X' := (fun i => (bif Nat.beq i 4 then (s108_p9_den K (fun s w => B1 [s 2, s 5, s 16, s 17, s 18] w) (fun s w => B2 [s 2, s 5, s 7, s 16, s 17, s 18, s 27, s 28, s 29] w)) else (bif Nat.beq i 3 then (s108_p3_den K (fun s w => B1 [s 2, s 5, s 16, s 17, s 18] w) (fun s w => B2 [s 2, s 5, s 7, s 16, s 17, s 18, s 27, s 28, s 29] w)) else (bif Nat.beq i 2 then (s108_p2_den K (fun s w => B1 [s 2, s 5, s 16, s 17, s 18] w)) else (bif Nat.beq i 1 then (s108_p2_den K (fun s w => B1 [s 2, s 5, s 16, s 17, s 18] w)) else (bif Nat.beq i 0 then (s108_p1_den K) else (fun _ _ => False)))))))) (R := s108_R K) (s := s) (w := w) (p := s108_p13 K B1 B2 B3 (s 2) (s 5) (s 7) (s 8) (s 9) (s 10) (s 11) (s 16) (s 17) (s 18) (s 27) (s 28) (s 29) w) (q := s108_p13_den K (fun s w => B1 [s 2, s 5, s 16, s 17, s 18] w) (fun s w => B2 [s 2, s 5, s 7, s 16, s 17, s 18, s 27, s 28, s 29] w) (fun s w => B3 [s 2, s 5, s 7, s 8, s 9, s 10, s 11, s 16, s 17, s 18, s 27, s 28, s 29] w) s w) (fun s w h => s108_p12_ok K B1 B2 B3 s w @h) (fun i => (tr_bif (fun s w h => s108_p9_ok K B1 B2 s w @h) (tr_bif (fun s w h => s108_p3_ok K B1 B2 s w @h) (tr_bif (fun s w h => s108_p2_ok K B1 s w @h) (tr_bif (fun s w h => s108_p2_ok K B1 s w @h) (tr_bif (fun s w h => s108_p1_ok K s w @h) tr_id)))))) (by kernel_rfl) (by kernel_rfl) @h
def s108_p14_F (K : Value → World → Prop) (B1 : List Value → World → Prop) (B2 : List Value → World → Prop) (B3 : List Value → World → Prop) (l : List Value) (w : World) : Prop :=
  match l with
  | [t2, t5, t7, t8, t9, t10, t11, t16, t17, t18, t27, t28, t29] => s108_p13 K B1 B2 B3 t2 t5 t7 t8 t9 t10 t11 t16 t17 t18 t27 t28 t29 w
  | _ => False
theorem s108_p14_Fe {K : Value → World → Prop} {B1 : List Value → World → Prop} {B2 : List Value → World → Prop} {B3 : List Value → World → Prop} {t2 t5 t7 t8 t9 t10 t11 t16 t17 t18 t27 t28 t29 : Value} {w : World} : s108_p14_F K B1 B2 B3 [t2, t5, t7, t8, t9, t10, t11, t16, t17, t18, t27, t28, t29] w = s108_p13 K B1 B2 B3 t2 t5 t7 t8 t9 t10 t11 t16 t17 t18 t27 t28 t29 w := by kernel_rfl
def s108_p14 (K : Value → World → Prop) (B1 : List Value → World → Prop) (B2 : List Value → World → Prop) (t2 t5 t7 t8 t9 t10 t11 t16 t17 t18 t27 t28 t29 : Value) (w : World) : Prop :=
  LoopL (s108_p14_F K B1 B2) [t2, t5, t7, t8, t9, t10, t11, t16, t17, t18, t27, t28, t29] w
def s108_p14_den (K : Value → World → Prop) (M1 : (Nat → Value) → World → Prop) (M2 : (Nat → Value) → World → Prop) : (Nat → Value) → World → Prop := fun s w => LoopP (fun M3 s w => s108_p13_den K M1 M2 M3 s w) s w
theorem s108_p14_ok (K : Value → World → Prop) (B1 : List Value → World → Prop) (B2 : List Value → World → Prop) (s : Nat → Value) (w : World) (h : s108_p14 K B1 B2 (s 2) (s 5) (s 7) (s 8) (s 9) (s 10) (s 11) (s 16) (s 17) (s 18) (s 27) (s 28) (s 29) w) : Tr (s108_p14_den K (fun s w => B1 [s 2, s 5, s 16, s 17, s 18] w) (fun s w => B2 [s 2, s 5, s 7, s 16, s 17, s 18, s 27, s 28, s 29] w) s w) :=
  tr_loop (G := fun N' s w => s108_p13_den K (fun s w => B1 [s 2, s 5, s 16, s 17, s 18] w) (fun s w => B2 [s 2, s 5, s 7, s 16, s 17, s 18, s 27, s 28, s 29] w) N' s w) (F := s108_p14_F K B1 B2) (sel := fun s => [s 2, s 5, s 7, s 8, s 9, s 10, s 11, s 16, s 17, s 18, s 27, s 28, s 29]) (s := s) (w := w) (p := s108_p14 K B1 B2 (s 2) (s 5) (s 7) (s 8) (s 9) (s 10) (s 11) (s 16) (s 17) (s 18) (s 27) (s 28) (s 29) w) (q := s108_p14_den K (fun s w => B1 [s 2, s 5, s 16, s 17, s 18] w) (fun s w => B2 [s 2, s 5, s 7, s 16, s 17, s 18, s 27, s 28, s 29] w) s w) (fun B s w h => s108_p13_ok K B1 B2 B s w @h) (by kernel_rfl) (by kernel_rfl) @h
def s108_p15 (K : Value → World → Prop) (B1 : List Value → World → Prop) (B2 : List Value → World → Prop) (t2 t5 t7 t16 t17 t18 t27 t28 t29 : Value) (w : World) : Prop :=
  ixs 2 t27 t29 (fun t32 w =>
  ldn 2 t32 (fun t33 w =>
  nw 116 #[(.int .i64 0), (.int .i64 0)] (fun t9 w =>
  stn 2 t9 t33 (fun w =>
  fd 0 t2 (fun t34 w =>
  ld1 t34 (fun t35 w =>
  fd 0 t9 (fun t36 w =>
  ld1 t36 (fun t37 w =>
  ixs 5 t35 t37 (fun t38 w =>
  ldn 5 t38 (fun t39 w =>
  nw 129 #[(.int .i64 0), (.int .i64 0), (.int .i64 0), (.int .i64 0), (.int .i64 0)] (fun t10 w =>
  stn 5 t10 t39 (fun w =>
  fd 1 t9 (fun t40 w =>
  ld1 t40 (fun t41 w =>
  s108_p14 K B1 B2 t2 t5 t7 t29 t9 t10 t41 t16 t17 t18 t27 t28 t29 w) w) w) w) w) w) w) w) w) w) w) w) w) w) w
def s108_p15_den (K : Value → World → Prop) (M1 : (Nat → Value) → World → Prop) (M2 : (Nat → Value) → World → Prop) : (Nat → Value) → World → Prop := denL Tryz.prog [(cd (Tryz.f108.body.getD .skip) [1, 1, 0, 1, 0, 0, 1, 1, 0, 0, 1, 1, 1, 0, 0, 1, 1, 0, 0, 0]), (cd (Tryz.f108.body.getD .skip) [1, 1, 0, 1, 0, 0, 1, 1, 0, 0, 1, 1, 1, 0, 0, 1, 1, 0, 0, 1, 0]), (cd (Tryz.f108.body.getD .skip) [1, 1, 0, 1, 0, 0, 1, 1, 0, 0, 1, 1, 1, 0, 0, 1, 1, 0, 0, 1, 1, 0, 0])] (s108_p14_den K M1 M2) (fun i => (bif Nat.beq i 3 then (s108_p3_den K M1 M2) else (bif Nat.beq i 2 then (s108_p2_den K M1) else (bif Nat.beq i 1 then (s108_p2_den K M1) else (bif Nat.beq i 0 then (s108_p1_den K) else (fun _ _ => False)))))) (s108_R K)
theorem s108_p15_ok (K : Value → World → Prop) (B1 : List Value → World → Prop) (B2 : List Value → World → Prop) (s : Nat → Value) (w : World) (h : s108_p15 K B1 B2 (s 2) (s 5) (s 7) (s 16) (s 17) (s 18) (s 27) (s 28) (s 29) w) : Tr (s108_p15_den K (fun s w => B1 [s 2, s 5, s 16, s 17, s 18] w) (fun s w => B2 [s 2, s 5, s 7, s 16, s 17, s 18, s 27, s 28, s 29] w) s w) :=
  tr_simple (P := Tryz.prog) (codes := [(cd (Tryz.f108.body.getD .skip) [1, 1, 0, 1, 0, 0, 1, 1, 0, 0, 1, 1, 1, 0, 0, 1, 1, 0, 0, 0]), (cd (Tryz.f108.body.getD .skip) [1, 1, 0, 1, 0, 0, 1, 1, 0, 0, 1, 1, 1, 0, 0, 1, 1, 0, 0, 1, 0]), (cd (Tryz.f108.body.getD .skip) [1, 1, 0, 1, 0, 0, 1, 1, 0, 0, 1, 1, 1, 0, 0, 1, 1, 0, 0, 1, 1, 0, 0])]) (N := (fun s w => s108_p14 K B1 B2 (s 2) (s 5) (s 7) (s 8) (s 9) (s 10) (s 11) (s 16) (s 17) (s 18) (s 27) (s 28) (s 29) w)) (N' := (s108_p14_den K (fun s w => B1 [s 2, s 5, s 16, s 17, s 18] w) (fun s w => B2 [s 2, s 5, s 7, s 16, s 17, s 18, s 27, s 28, s 29] w))) (X := (fun i => (bif Nat.beq i 3 then (fun s w => s108_p3 K B1 B2 (s 2) (s 5) (s 7) (s 16) (s 17) (s 18) (s 27) (s 28) (s 29) w) else (bif Nat.beq i 2 then (fun s w => s108_p2 K B1 (s 2) (s 5) (s 16) (s 17) (s 18) w) else (bif Nat.beq i 1 then (fun s w => s108_p2 K B1 (s 2) (s 5) (s 16) (s 17) (s 18) w) else (bif Nat.beq i 0 then (fun s w => s108_p1 K w) else (fun _ _ => False))))))) (X' := (fun i => (bif Nat.beq i 3 then (s108_p3_den K (fun s w => B1 [s 2, s 5, s 16, s 17, s 18] w) (fun s w => B2 [s 2, s 5, s 7, s 16, s 17, s 18, s 27, s 28, s 29] w)) else (bif Nat.beq i 2 then (s108_p2_den K (fun s w => B1 [s 2, s 5, s 16, s 17, s 18] w)) else (bif Nat.beq i 1 then (s108_p2_den K (fun s w => B1 [s 2, s 5, s 16, s 17, s 18] w)) else (bif Nat.beq i 0 then (s108_p1_den K) else (fun _ _ => False))))))) (R := s108_R K) (s := s) (w := w) (p := s108_p15 K B1 B2 (s 2) (s 5) (s 7) (s 16) (s 17) (s 18) (s 27) (s 28) (s 29) w) (q := s108_p15_den K (fun s w => B1 [s 2, s 5, s 16, s 17, s 18] w) (fun s w => B2 [s 2, s 5, s 7, s 16, s 17, s 18, s 27, s 28, s 29] w) s w) (fun s w h => s108_p14_ok K B1 B2 s w @h) (fun i => (tr_bif (fun s w h => s108_p3_ok K B1 B2 s w @h) (tr_bif (fun s w h => s108_p2_ok K B1 s w @h) (tr_bif (fun s w h => s108_p2_ok K B1 s w @h) (tr_bif (fun s w h => s108_p1_ok K s w @h) tr_id))))) (by kernel_rfl) (by kernel_rfl) @h
def s108_p16 (K : Value → World → Prop) (B1 : List Value → World → Prop) (B2 : List Value → World → Prop) (t2 t5 t7 t16 t17 t18 t27 t28 t29 : Value) (w : World) : Prop :=
  boI .lss t29 t28 (fun t30 w =>
  ifb t30
  (s108_p15 K B1 B2 t2 t5 t7 t16 t17 t18 t27 t28 t29 w)
  (s108_p2 K B1 t2 t5 t16 t17 t18 w)) w
def s108_p16_den (K : Value → World → Prop) (M1 : (Nat → Value) → World → Prop) (M2 : (Nat → Value) → World → Prop) : (Nat → Value) → World → Prop := denL Tryz.prog [(cd (Tryz.f108.body.getD .skip) [1, 1, 0, 1, 0, 0, 1, 1, 0, 0, 1, 1, 1, 0, 0, 0]), (cd (Tryz.f108.body.getD .skip) [1, 1, 0, 1, 0, 0, 1, 1, 0, 0, 1, 1, 1, 0, 0, 1, 0])] (s108_p15_den K M1 M2) (fun i => (bif Nat.beq i 2 then (s108_p2_den K M1) else (bif Nat.beq i 1 then (s108_p2_den K M1) else (bif Nat.beq i 0 then (s108_p1_den K) else (fun _ _ => False))))) (s108_R K)
theorem s108_p16_ok (K : Value → World → Prop) (B1 : List Value → World → Prop) (B2 : List Value → World → Prop) (s : Nat → Value) (w : World) (h : s108_p16 K B1 B2 (s 2) (s 5) (s 7) (s 16) (s 17) (s 18) (s 27) (s 28) (s 29) w) : Tr (s108_p16_den K (fun s w => B1 [s 2, s 5, s 16, s 17, s 18] w) (fun s w => B2 [s 2, s 5, s 7, s 16, s 17, s 18, s 27, s 28, s 29] w) s w) :=
  tr_simple (P := Tryz.prog) (codes := [(cd (Tryz.f108.body.getD .skip) [1, 1, 0, 1, 0, 0, 1, 1, 0, 0, 1, 1, 1, 0, 0, 0]), (cd (Tryz.f108.body.getD .skip) [1, 1, 0, 1, 0, 0, 1, 1, 0, 0, 1, 1, 1, 0, 0, 1, 0])]) (N := (fun s w => s108_p15 K B1 B2 (s 2) (s 5) (s 7) (s 16) (s 17) (s 18) (s 27) (s 28) (s 29) w)) (N' := (s108_p15_den K (fun s w => B1 [s 2, s 5, s 16, s 17, s 18] w) (fun s w => B2 [s 2, s 5, s 7, s 16, s 17, s 18, s 27, s 28, s 29] w))) (X := (fun i => (bif Nat.beq i 2 then (fun s w => s108_p2 K B1 (s 2) (s 5) (s 16) (s 17) (s 18) w) else (bif Nat.beq i 1 then (fun s w => s108_p2 K B1 (s 2) (s 5) (s 16) (s 17) (s 18) w) else (bif Nat.beq i 0 then (fun s w => s108_p1 K w) else (fun _ _ => False)))))) (X' := (fun i => (bif Nat.beq i 2 then (s108_p2_den K (fun s w => B1 [s 2, s 5, s 16, s 17, s 18] w)) else (bif Nat.beq i 1 then (s108_p2_den K (fun s w => B1 [s 2, s 5, s 16, s 17, s 18] w)) else (bif Nat.beq i 0 then (s108_p1_den K) else (fun _ _ => False)))))) (R := s108_R K) (s := s) (w := w) (p := s108_p16 K B1 B2 (s 2) (s 5) (s 7) (s 16) (s 17) (s 18) (s 27) (s 28) (s 29) w) (q := s108_p16_den K (fun s w => B1 [s 2, s 5, s 16, s 17, s 18] w) (fun s w => B2 [s 2, s 5, s 7, s 16, s 17, s 18, s 27, s 28, s 29] w) s w) (fun s w h => s108_p15_ok K B1 B2 s w @h) (fun i => (tr_bif (fun s w h => s108_p2_ok K B1 s w @h) (tr_bif (fun s w h => s108_p2_ok K B1 s w @h) (tr_bif (fun s w h => s108_p1_ok K s w @h) tr_id)))) (by kernel_rfl) (by kernel_rfl) @h
def s108_p17_F (K : Value → World → Prop) (B1 : List Value → World → Prop) (B2 : List Value → World → Prop) (l : List Value) (w : World) : Prop :=
  match l with
  | [t2, t5, t7, t16, t17, t18, t27, t28, t29] => s108_p16 K B1 B2 t2 t5 t7 t16 t17 t18 t27 t28 t29 w
  | _ => False
theorem s108_p17_Fe {K : Value → World → Prop} {B1 : List Value → World → Prop} {B2 : List Value → World → Prop} {t2 t5 t7 t16 t17 t18 t27 t28 t29 : Value} {w : World} : s108_p17_F K B1 B2 [t2, t5, t7, t16, t17, t18, t27, t28, t29] w = s108_p16 K B1 B2 t2 t5 t7 t16 t17 t18 t27 t28 t29 w := by kernel_rfl
def s108_p17 (K : Value → World → Prop) (B1 : List Value → World → Prop) (t2 t5 t7 t16 t17 t18 t27 t28 t29 : Value) (w : World) : Prop :=
  LoopL (s108_p17_F K B1) [t2, t5, t7, t16, t17, t18, t27, t28, t29] w
def s108_p17_den (K : Value → World → Prop) (M1 : (Nat → Value) → World → Prop) : (Nat → Value) → World → Prop := fun s w => LoopP (fun M2 s w => s108_p16_den K M1 M2 s w) s w
theorem s108_p17_ok (K : Value → World → Prop) (B1 : List Value → World → Prop) (s : Nat → Value) (w : World) (h : s108_p17 K B1 (s 2) (s 5) (s 7) (s 16) (s 17) (s 18) (s 27) (s 28) (s 29) w) : Tr (s108_p17_den K (fun s w => B1 [s 2, s 5, s 16, s 17, s 18] w) s w) :=
  tr_loop (G := fun N' s w => s108_p16_den K (fun s w => B1 [s 2, s 5, s 16, s 17, s 18] w) N' s w) (F := s108_p17_F K B1) (sel := fun s => [s 2, s 5, s 7, s 16, s 17, s 18, s 27, s 28, s 29]) (s := s) (w := w) (p := s108_p17 K B1 (s 2) (s 5) (s 7) (s 16) (s 17) (s 18) (s 27) (s 28) (s 29) w) (q := s108_p17_den K (fun s w => B1 [s 2, s 5, s 16, s 17, s 18] w) s w) (fun B s w h => s108_p16_ok K B1 B s w @h) (by kernel_rfl) (by kernel_rfl) @h
def s108_p18 (K : Value → World → Prop) (B1 : List Value → World → Prop) (t2 t5 t16 t17 t18 : Value) (w : World) : Prop :=
  ixs 7 t16 t18 (fun t20 w =>
  ldn 7 t20 (fun t21 w =>
  nw 66 #[(.int .i64 0), (.int .i64 0), (.int .i64 0), (.int .i64 0), (.int .i64 0), (.int .i64 0), (.slice none 0 0)] (fun t7 w =>
  stn 7 t7 t21 (fun w =>
  fd 1 t7 (fun t22 w =>
  ld1 t22 (fun t23 w =>
  cl Tryz.prog 135 #[t23] (fun t24 w =>
  un .not t24 (fun t25 w =>
  ifb t25
  (s108_p2 K B1 t2 t5 t16 t17 t18 w)
  (fd 6 t7 (fun t26 w =>
  ld1 t26 (fun t27 w =>
  lnS t27 (fun t28 w =>
  s108_p17 K B1 t2 t5 t7 t16 t17 t18 t27 t28 (.int .i64 0) w) w) w) w)) w) w) w) w) w) w) w) w
def s108_p18_den (K : Value → World → Prop) (M1 : (Nat → Value) → World → Prop) : (Nat → Value) → World → Prop := denL Tryz.prog [(cd (Tryz.f108.body.getD .skip) [1, 1, 0, 1, 0, 0, 1, 1, 0, 0, 0]), (cd (Tryz.f108.body.getD .skip) [1, 1, 0, 1, 0, 0, 1, 1, 0, 0, 1, 0, 0]), (cd (Tryz.f108.body.getD .skip) [1, 1, 0, 1, 0, 0, 1, 1, 0, 0, 1, 0, 1]), (cd (Tryz.f108.body.getD .skip) [1, 1, 0, 1, 0, 0, 1, 1, 0, 0, 1, 1, 0])] (s108_p17_den K M1) (fun i => (bif Nat.beq i 1 then (s108_p2_den K M1) else (bif Nat.beq i 0 then (s108_p1_den K) else (fun _ _ => False)))) (s108_R K)
theorem s108_p18_ok (K : Value → World → Prop) (B1 : List Value → World → Prop) (s : Nat → Value) (w : World) (h : s108_p18 K B1 (s 2) (s 5) (s 16) (s 17) (s 18) w) : Tr (s108_p18_den K (fun s w => B1 [s 2, s 5, s 16, s 17, s 18] w) s w) :=
  tr_simple (P := Tryz.prog) (codes := [(cd (Tryz.f108.body.getD .skip) [1, 1, 0, 1, 0, 0, 1, 1, 0, 0, 0]), (cd (Tryz.f108.body.getD .skip) [1, 1, 0, 1, 0, 0, 1, 1, 0, 0, 1, 0, 0]), (cd (Tryz.f108.body.getD .skip) [1, 1, 0, 1, 0, 0, 1, 1, 0, 0, 1, 0, 1]), (cd (Tryz.f108.body.getD .skip) [1, 1, 0, 1, 0, 0, 1, 1, 0, 0, 1, 1, 0])]) (N := (fun s w => s108_p17 K B1 (s 2) (s 5) (s 7) (s 16) (s 17) (s 18) (s 27) (s 28) (s 29) w)) (N' := (s108_p17_den K (fun s w => B1 [s 2, s 5, s 16, s 17, s 18] w))) (X := (fun i => (bif Nat.beq i 1 then (fun s w => s108_p2 K B1 (s 2) (s 5) (s 16) (s 17) (s 18) w) else (bif Nat.beq i 0 then (fun s w => s108_p1 K w) else (fun _ _ => False))))) (X' := (fun i => (bif Nat.beq i 1 then (s108_p2_den K (fun s w => B1 [s 2, s 5, s 16, s 17, s 18] w)) else (bif Nat.beq i 0 then (s108_p1_den K) else (fun _ _ => False))))) (R := s108_R K) (s := s) (w := w) (p := s108_p18 K B1 (s 2) (s 5) (s 16) (s 17) (s 18) w) (q := s108_p18_den K (fun s w => B1 [s 2, s 5, s 16, s 17, s 18] w) s w) (fun s w h => s108_p17_ok K B1 s w @h) (fun i => (tr_bif (fun s w h => s108_p2_ok K B1 s w @h) (tr_bif (fun s w h => s108_p1_ok K s w @h) tr_id))) (by kernel_rfl) (by kernel_rfl) @h
def s108_p19 (K : Value → World → Prop) (B1 : List Value → World → Prop) (t2 t5 t16 t17 t18 : Value) (w : World) : Prop :=
  boI .lss t18 t17 (fun t19 w =>
  ifb t19
  (s108_p18 K B1 t2 t5 t16 t17 t18 w)
  (s108_p1 K w)) w
def s108_p19_den (K : Value → World → Prop) (M1 : (Nat → Value) → World → Prop) : (Nat → Value) → World → Prop := denL Tryz.prog [(cd (Tryz.f108.body.getD .skip) [1, 1, 0, 1, 0, 0, 0]), (cd (Tryz.f108.body.getD .skip) [1, 1, 0, 1, 0, 0, 1, 0])] (s108_p18_den K M1) (fun i => (bif Nat.beq i 0 then (s108_p1_den K) else (fun _ _ => False))) (s108_R K)
theorem s108_p19_ok (K : Value → World → Prop) (B1 : List Value → World → Prop) (s : Nat → Value) (w : World) (h : s108_p19 K B1 (s 2) (s 5) (s 16) (s 17) (s 18) w) : Tr (s108_p19_den K (fun s w => B1 [s 2, s 5, s 16, s 17, s 18] w) s w) :=
  tr_simple (P := Tryz.prog) (codes := [(cd (Tryz.f108.body.getD .skip) [1, 1, 0, 1, 0, 0, 0]), (cd (Tryz.f108.body.getD .skip) [1, 1, 0, 1, 0, 0, 1, 0])]) (N := (fun s w => s108_p18 K B1 (s 2) (s 5) (s 16) (s 17) (s 18) w)) (N' := (s108_p18_den K (fun s w => B1 [s 2, s 5, s 16, s 17, s 18] w))) (X := (fun i => (bif Nat.beq i 0 then (fun s w => s108_p1 K w) else (fun _ _ => False)))) (X' := (fun i => (bif Nat.beq i 0 then (s108_p1_den K) else (fun _ _ => False)))) (R := s108_R K) (s := s) (w := w) (p := s108_p19 K B1 (s 2) (s 5) (s 16) (s 17) (s 18) w) (q := s108_p19_den K (fun s w => B1 [s 2, s 5, s 16, s 17, s 18] w) s w) (fun s w h => s108_p18_ok K B1 s w @h) (fun i => (tr_bif (fun s w h => s108_p1_ok K s w @h) tr_id)) (by kernel_rfl) (by kernel_rfl) @h
def s108_p20_F (K : Value → World → Prop) (B1 : List Value → World → Prop) (l : List Value) (w : World) : Prop :=
  match l with
  | [t2, t5, t16, t17, t18] => s108_p19 K B1 t2 t5 t16 t17 t18 w
  | _ => False
theorem s108_p20_Fe {K : Value → World → Prop} {B1 : List Value → World → Prop} {t2 t5 t16 t17 t18 : Value} {w : World} : s108_p20_F K B1 [t2, t5, t16, t17, t18] w = s108_p19 K B1 t2 t5 t16 t17 t18 w := by kernel_rfl
def s108_p20 (K : Value → World → Prop) (t2 t5 t16 t17 t18 : Value) (w : World) : Prop :=
  LoopL (s108_p20_F K) [t2, t5, t16, t17, t18] w
def s108_p20_den (K : Value → World → Prop) : (Nat → Value) → World → Prop := fun s w => LoopP (fun M1 s w => s108_p19_den K M1 s w) s w
theorem s108_p20_ok (K : Value → World → Prop) (s : Nat → Value) (w : World) (h : s108_p20 K (s 2) (s 5) (s 16) (s 17) (s 18) w) : Tr (s108_p20_den K s w) :=
  tr_loop (G := fun N' s w => s108_p19_den K N' s w) (F := s108_p20_F K) (sel := fun s => [s 2, s 5, s 16, s 17, s 18]) (s := s) (w := w) (p := s108_p20 K (s 2) (s 5) (s 16) (s 17) (s 18) w) (q := s108_p20_den K s w) (fun B s w h => s108_p19_ok K B s w @h) (by kernel_rfl) (by kernel_rfl) @h
def s108_p21 (K : Value → World → Prop) (t0 t1 : Value) (w : World) : Prop :=
  nw 75 (t0).cells (fun t2 w =>
  ldn 14 t2 (fun t13 w =>
  cl Tryz.prog 84 #[t13, t1] (fun t15 w =>
  lnS t1 (fun t17 w =>
  s108_p20 K t2 t15 t1 t17 (.int .i64 0) w) w) w) w) w
def s108_p21_den (K : Value → World → Prop) : (Nat → Value) → World → Prop := denL Tryz.prog [(cd (Tryz.f108.body.getD .skip) [0]), (cd (Tryz.f108.body.getD .skip) [1, 0]), (cd (Tryz.f108.body.getD .skip) [1, 1, 0, 0])] (s108_p20_den K) (fun i => (fun _ _ => False)) (s108_R K)
theorem s108_p21_ok (K : Value → World → Prop) (s : Nat → Value) (w : World) (h : s108_p21 K (s 0) (s 1) w) : Tr (s108_p21_den K s w) :=
  tr_simple (P := Tryz.prog) (codes := [(cd (Tryz.f108.body.getD .skip) [0]), (cd (Tryz.f108.body.getD .skip) [1, 0]), (cd (Tryz.f108.body.getD .skip) [1, 1, 0, 0])]) (N := (fun s w => s108_p20 K (s 2) (s 5) (s 16) (s 17) (s 18) w)) (N' := (s108_p20_den K)) (X := (fun i => (fun _ _ => False))) (X' := (fun i => (fun _ _ => False))) (R := s108_R K) (s := s) (w := w) (p := s108_p21 K (s 0) (s 1) w) (q := s108_p21_den K s w) (fun s w h => s108_p20_ok K s w @h) (fun i => tr_id) (by kernel_rfl) (by kernel_rfl) @h
/-- the call, from the text -/
theorem c108 (t0 t1 : Value) {K : Value → World → Prop} {w : World} (h : s108_p21 K t0 t1 w) : cl Tryz.prog 108 #[t0, t1] K w :=
  calls_of_tr (c := (Tryz.f108.body.getD .skip)) (fn := Tryz.f108) (q := s108_p21_den K (st0 #[t0, t1]) w) Tryz.func108 (by kernel_rfl) (by kernel_rfl) (Nat.le_of_ble_eq_true (by kernel_rfl)) (by kernel_rfl) (by kernel_rfl) (s108_p21_ok K (st0 #[t0, t1]) w @h)

/-! ### function 132 : (*e2e.engine.digest).add -/
def s132_R (K : Value → World → Prop) (s : Nat → Value) (w : World) : Prop := retv Tryz.prog s Tryz.f132.results.toList (fun vs => K (pack vs) w) w
def s132_p1 (K : Value → World → Prop) (B1 : List Value → World → Prop) (t0 t1 t4 : Value) (w : World) : Prop :=
  boI .lss t4 (.int .i64 64) (fun t6 w =>
  ifb t6
  (nck t0 (fun t10 w =>
  ld1 t10 (fun t11 w =>
  cvi .u64 t1 (fun t13 w =>
  cvi .u64 t4 (fun t15 w =>
  boI .shr t13 t15 (fun t16 w =>
  cvi .u8 t16 (fun t17 w =>
  cvi .u32 t17 (fun t18 w =>
  boI .xor t11 t18 (fun t19 w =>
  nck t0 (fun t20 w =>
  st1 t20 t19 (fun w =>
  nck t0 (fun t22 w =>
  ld1 t22 (fun t23 w =>
  boI .mul t23 (.int .u32 16777619) (fun t24 w =>
  nck t0 (fun t25 w =>
  st1 t25 t24 (fun w =>
  boI .add t4 (.int .i64 8) (fun t8 w =>
  B1 [t0, t1, t8] w) w) w) w) w) w) w) w) w) w) w) w) w) w) w) w) w)
  (K (.tuple #[]) w)) w
def s132_p1_den (K : Value → World → Prop) (M1 : (Nat → Value) → World → Prop) : (Nat → Value) → World → Prop := denL Tryz.prog [(cd (Tryz.f132.body.getD .skip) [1, 0, 0, 0, 0]), (cd (Tryz.f132.body.getD .skip) [1, 0, 0, 0, 1]), (cd (Tryz.f132.body.getD .skip) [1, 0, 0, 1, 0]), (cd (Tryz.f132.body.getD .skip) [1, 0, 0, 1, 1])] M1 (fun i => (bif Nat.beq i 0 then (s132_R K) else (fun _ _ => False))) (s132_R K)
theorem s132_p1_ok (K : Value → World → Prop) (B1 : List Value → World → Prop) (s : Nat → Value) (w : World) (h : s132_p1 K B1 (s 0) (s 1) (s 4) w) : Tr (s132_p1_den K (fun s w => B1 [s 0, s 1, s 4] w) s w) :=
  tr_simple (P := Tryz.prog) (codes := [(cd (Tryz.f132.body.getD .skip) [1, 0, 0, 0, 0]), (cd (Tryz.f132.body.getD .skip) [1, 0, 0, 0, 1]), (cd (Tryz.f132.body.getD .skip) [1, 0, 0, 1, 0]), (cd (Tryz.f132.body.getD .skip) [1, 0, 0, 1, 1])]) (N := (fun s w => B1 [s 0, s 1, s 4] w)) (N' := (fun s w => B1 [s 0, s 1, s 4] w)) (X := (fun i => (bif Nat.beq i 0 then (s132_R K) else (fun _ _ => False)))) (X' := (fun i => (bif Nat.beq i 0 then (s132_R K) else (fun _ _ => False)))) (R := s132_R K) (s := s) (w := w) (p := s132_p1 K B1 (s 0) (s 1) (s 4) w) (q := s132_p1_den K (fun s w => B1 [s 0, s 1, s 4] w) s w) tr_id (fun i => (tr_bif tr_id tr_id)) (by kernel_rfl) (by kernel_rfl) @h
def s132_p2_F (K : Value → World → Prop) (B1 : List Value → World → Prop) (l : List Value) (w : World) : Prop :=
  match l with
  | [t0, t1, t4] => s132_p1 K B1 t0 t1 t4 w
  | _ => False
theorem s132_p2_Fe {K : Value → World → Prop} {B1 : List Value → World → Prop} {t0 t1 t4 : Value} {w : World} : s132_p2_F K B1 [t0, t1, t4] w = s132_p1 K B1 t0 t1 t4 w := by kernel_rfl
def s132_p2 (K : Value → World → Prop) (t0 t1 t4 : Value) (w : World) : Prop :=
  LoopL (s132_p2_F K) [t0, t1, t4] w
def s132_p2_den (K : Value → World → Prop) : (Nat → Value) → World → Prop := fun s w => LoopP (fun M1 s w => s132_p1_den K M1 s w) s w
theorem s132_p2_ok (K : Value → World → Prop) (s : Nat → Value) (w : World) (h : s132_p2 K (s 0) (s 1) (s 4) w) : Tr (s132_p2_den K s w) :=
  tr_loop (G := fun N' s w => s132_p1_den K N' s w) (F := s132_p2_F K) (sel := fun s => [s 0, s 1, s 4]) (s := s) (w := w) (p := s132_p2 K (s 0) (s 1) (s 4) w) (q := s132_p2_den K s w) (fun B s w h => s132_p1_ok K B s w @h) (by kernel_rfl) (by kernel_rfl) @h
def s132_p3 (K : Value → World → Prop) (t0 t1 : Value) (w : World) : Prop :=
  s132_p2 K t0 t1 (.int .i64 0) w
def s132_p3_den (K : Value → World → Prop) : (Nat → Value) → World → Prop := denL Tryz.prog [(cd (Tryz.f132.body.getD .skip) [0])] (s132_p2_den K) (fun i => (fun _ _ => False)) (s132_R K)
theorem s132_p3_ok (K : Value → World → Prop) (s : Nat → Value) (w : World) (h : s132_p3 K (s 0) (s 1) w) : Tr (s132_p3_den K s w) :=
  tr_simple (P := Tryz.prog) (codes := [(cd (Tryz.f132.body.getD .skip) [0])]) (N := (fun s w => s132_p2 K (s 0) (s 1) (s 4) w)) (N' := (s132_p2_den K)) (X := (fun i => (fun _ _ => False))) (X' := (fun i => (fun _ _ => False))) (R := s132_R K) (s := s) (w := w) (p := s132_p3 K (s 0) (s 1) w) (q := s132_p3_den K s w) (fun s w h => s132_p2_ok K s w @h) (fun i => tr_id) (by kernel_rfl) (by kernel_rfl) @h
/-- the call, from the text -/
theorem c132 (t0 t1 : Value) {K : Value → World → Prop} {w : World} (h : s132_p3 K t0 t1 w) : cl Tryz.prog 132 #[t0, t1] K w :=
  calls_of_tr (c := (Tryz.f132.body.getD .skip)) (fn := Tryz.f132) (q := s132_p3_den K (st0 #[t0, t1]) w) Tryz.func132 (by kernel_rfl) (by kernel_rfl) (Nat.le_of_ble_eq_true (by kernel_rfl)) (by kernel_rfl) (by kernel_rfl) (s132_p3_ok K (st0 #[t0, t1]) w @h)

/-! ### function 105 : e2e.engine.fingerprint -/
def s105_R (K : Value → World → Prop) (s : Nat → Value) (w : World) : Prop := retv Tryz.prog s Tryz.f105.results.toList (fun vs => K (pack vs) w) w
def s105_p1 (K : Value → World → Prop) (t3 : Value) (w : World) : Prop :=
  ld1 t3 (fun t86 w =>
  cvi .i64 t86 (fun t87 w =>
  K t87 w) w) w
def s105_p1_den (K : Value → World → Prop) : (Nat → Value) → World → Prop := denL Tryz.prog [(cd (Tryz.f105.body.getD .skip) [1, 1, 1, 1, 1, 1, 0]), (cd (Tryz.f105.body.getD .skip) [1, 1, 1, 1, 1, 1, 1])] (fun _ _ => False) (fun i => (fun _ _ => False)) (s105_R K)
theorem s105_p1_ok (K : Value → World → Prop) (s : Nat → Value) (w : World) (h : s105_p1 K (s 3) w) : Tr (s105_p1_den K s w) :=
  tr_simple (P := Tryz.prog) (codes := [(cd (Tryz.f105.body.getD .skip) [1, 1, 1, 1, 1, 1, 0]), (cd (Tryz.f105.body.getD .skip) [1, 1, 1, 1, 1, 1, 1])]) (N := (fun _ _ => False)) (N' := (fun _ _ => False)) (X := (fun i => (fun _ _ => False))) (X' := (fun i => (fun _ _ => False))) (R := s105_R K) (s := s) (w := w) (p := s105_p1 K (s 3) w) (q := s105_p1_den K s w) tr_id (fun i => tr_id) (by kernel_rfl) (by kernel_rfl) @h
def s105_p2 (K : Value → World → Prop) (B1 : List Value → World → Prop) (t3 t77 t78 t79 : Value) (w : World) : Prop :=
  boI .lss t79 t78 (fun t80 w =>
  ifb t80
  (ixs 1 t77 t79 (fun t81 w =>
  ld1 t81 (fun t82 w =>
  cl Tryz.prog 132 #[t3, t82] (fun t84 w =>
  boI .add t79 (.int .i64 1) (fun t85 w =>
  B1 [t3, t77, t78, t85] w) w) w) w) w)
  (s105_p1 K t3 w)) w
def s105_p2_den (K : Value → World → Prop) (M1 : (Nat → Value) → World → Prop) : (Nat → Value) → World → Prop := denL Tryz.prog [(cd (Tryz.f105.body.getD .skip) [1, 1, 1, 1, 1, 0, 1, 0, 0, 0]), (cd (Tryz.f105.body.getD .skip) [1, 1, 1, 1, 1, 0, 1, 0, 0, 1, 0]), (cd (Tryz.f105.body.getD .skip) [1, 1, 1, 1, 1, 0, 1, 0, 0, 1, 1, 0]), (cd (Tryz.f105.body.getD .skip) [1, 1, 1, 1, 1, 0, 1, 0, 0, 1, 1, 1])] M1 (fun i => (bif Nat.beq i 8 then (s105_p1_den K) else (fun _ _ => False))) (s105_R K)
theorem s105_p2_ok (K : Value → World → Prop) (B1 : List Value → World → Prop) (s : Nat → Value) (w : World) (h : s105_p2 K B1 (s 3) (s 77) (s 78) (s 79) w) : Tr (s105_p2_den K (fun s w => B1 [s 3, s 77, s 78, s 79] w) s w) :=
  tr_simple (P := Tryz.prog) (codes := [(cd (Tryz.f105.body.getD .skip) [1, 1, 1, 1, 1, 0, 1, 0, 0, 0]), (cd (Tryz.f105.body.getD .skip) [1, 1, 1, 1, 1, 0, 1, 0, 0, 1, 0]), (cd (Tryz.f105.body.getD .skip) [1, 1, 1, 1, 1, 0, 1, 0, 0, 1, 1, 0]), (cd (Tryz.f105.body.getD .skip) [1, 1, 1, 1, 1, 0, 1, 0, 0, 1, 1, 1])]) (N := (fun s w => B1 [s 3, s 77, s 78, s 79] w)) (N' := (fun s w => B1 [s 3, s 77, s 78, s 79] w)) (X := (fun i => (bif Nat.beq i 8 then (fun s w => s105_p1 K (s 3) w) else (fun _ _ => False)))) (X' := (fun i => (bif Nat.beq i 8 then (s105_p1_den K) else (fun _ _ => False)))) (R := s105_R K) (s := s) (w := w) (p := s105_p2 K B1 (s 3) (s 77) (s 78) (s 79) w) (q := s105_p2_den K (fun s w => B1 [s 3, s 77, s 78, s 79] w) s w) tr_id (fun i => (tr_bif (fun s w h => s105_p1_ok K s w @h) tr_id)) (by kernel_rfl) (by kernel_rfl) @h
def s105_p3_F (K : Value → World → Prop) (B1 : List Value → World → Prop) (l : List Value) (w : World) : Prop :=
  match l with
  | [t3, t77, t78, t79] => s105_p2 K B1 t3 t77 t78 t79 w
  | _ => False
theorem s105_p3_Fe {K : Value → World → Prop} {B1 : List Value → World → Prop} {t3 t77 t78 t79 : Value} {w : World} : s105_p3_F K B1 [t3, t77, t78, t79] w = s105_p2 K B1 t3 t77 t78 t79 w := by kernel_rfl
def s105_p3 (K : Value → World → Prop) (t3 t77 t78 t79 : Value) (w : World) : Prop :=
  LoopL (s105_p3_F K) [t3, t77, t78, t79] w
def s105_p3_den (K : Value → World → Prop) : (Nat → Value) → World → Prop := fun s w => LoopP (fun M1 s w => s105_p2_den K M1 s w) s w
theorem s105_p3_ok (K : Value → World → Prop) (s : Nat → Value) (w : World) (h : s105_p3 K (s 3) (s 77) (s 78) (s 79) w) : Tr (s105_p3_den K s w) :=
  tr_loop (G := fun N' s w => s105_p2_den K N' s w) (F := s105_p3_F K) (sel := fun s => [s 3, s 77, s 78, s 79]) (s := s) (w := w) (p := s105_p3 K (s 3) (s 77) (s 78) (s 79) w) (q := s105_p3_den K s w) (fun B s w h => s105_p2_ok K B s w @h) (by kernel_rfl) (by kernel_rfl) @h
def s105_p4 (K : Value → World → Prop) (t1 t3 : Value) (w : World) : Prop :=
  fd 2 t1 (fun t57 w =>
  ld1 t57 (fun t58 w =>
  fd 3 t1 (fun t59 w =>
  ld1 t59 (fun t60 w =>
  fd 4 t1 (fun t61 w =>
  ld1 t61 (fun t62 w =>
  fd 5 t1 (fun t63 w =>
  ld1 t63 (fun t64 w =>
  fd 6 t1 (fun t65 w =>
  ld1 t65 (fun t66 w =>
  fd 7 t1 (fun t67 w =>
  ld1 t67 (fun t68 w =>
  fd 8 t1 (fun t69 w =>
  ld1 t69 (fun t70 w =>
  fd 9 t1 (fun t71 w =>
  ld1 t71 (fun t72 w =>
  fd 10 t1 (fun t73 w =>
  ld1 t73 (fun t74 w =>
  fd 11 t1 (fun t75 w =>
  ld1 t75 (fun t76 w =>
  bsq 3 [(.int .i64 0)] 10 [(some (0, 1), t58), (some (1, 1), t60), (some (2, 1), t62), (some (3, 1), t64), (some (4, 1), t66), (some (5, 1), t68), (some (6, 1), t70), (some (7, 1), t72), (some (8, 1), t74), (some (9, 1), t76)] (fun t77 w =>
  lnS t77 (fun t78 w =>
  s105_p3 K t3 t77 t78 (.int .i64 0) w) w) w) w) w) w) w) w) w) w) w) w) w) w) w) w) w) w) w) w) w) w) w
def s105_p4_den (K : Value → World → Prop) : (Nat → Value) → World → Prop := denL Tryz.prog [(cd (Tryz.f105.body.getD .skip) [1, 1, 1, 1, 1, 0, 0])] (s105_p3_den K) (fun i => (fun _ _ => False)) (s105_R K)
theorem s105_p4_ok (K : Value → World → Prop) (s : Nat → Value) (w : World) (h : s105_p4 K (s 1) (s 3) w) : Tr (s105_p4_den K s w) :=
  tr_simple (P := Tryz.prog) (codes := [(cd (Tryz.f105.body.getD .skip) [1, 1, 1, 1, 1, 0, 0])]) (N := (fun s w => s105_p3 K (s 3) (s 77) (s 78) (s 79) w)) (N' := (s105_p3_den K)) (X := (fun i => (fun _ _ => False))) (X' := (fun i => (fun _ _ => False))) (R := s105_R K) (s := s) (w := w) (p := s105_p4 K (s 1) (s 3) w) (q := s105_p4_den K s w) (fun s w h => s105_p3_ok K s w @h) (fun i => tr_id) (by kernel_rfl) (by kernel_rfl) @h
def s105_p5 (K : Value → World → Prop) (B1 : List Value → World → Prop) (t1 t3 t41 t42 t43 : Value) (w : World) : Prop :=
  boI .add t43 (.int .i64 1) (fun t56 w =>
  B1 [t1, t3, t41, t42, t56] w) w
def s105_p5_den (K : Value → World → Prop) (M1 : (Nat → Value) → World → Prop) : (Nat → Value) → World → Prop := denL Tryz.prog [(cd (Tryz.f105.body.getD .skip) [1, 1, 1, 1, 0, 1, 0, 0, 1, 1, 1])] M1 (fun i => (bif Nat.beq i 4 then (s105_p4_den K) else (fun _ _ => False))) (s105_R K)
theorem s105_p5_ok (K : Value → World → Prop) (B1 : List Value → World → Prop) (s : Nat → Value) (w : World) (h : s105_p5 K B1 (s 1) (s 3) (s 41) (s 42) (s 43) w) : Tr (s105_p5_den K (fun s w => B1 [s 1, s 3, s 41, s 42, s 43] w) s w) :=
  tr_simple (P := Tryz.prog) (codes := [(cd (Tryz.f105.body.getD .skip) [1, 1, 1, 1, 0, 1, 0, 0, 1, 1, 1])]) (N := (fun s w => B1 [s 1, s 3, s 41, s 42, s 43] w)) (N' := (fun s w => B1 [s 1, s 3, s 41, s 42, s 43] w)) (X := (fun i => (bif Nat.beq i 4 then (fun s w => s105_p4 K (s 1) (s 3) w) else (fun _ _ => False)))) (X' := (fun i => (bif Nat.beq i 4 then (s105_p4_den K) else (fun _ _ => False)))) (R := s105_R K) (s := s) (w := w) (p := s105_p5 K B1 (s 1) (s 3) (s 41) (s 42) (s 43) w) (q := s105_p5_den K (fun s w => B1 [s 1, s 3, s 41, s 42, s 43] w) s w) tr_id (fun i => (tr_bif (fun s w h => s105_p4_ok K s w @h) tr_id)) (by kernel_rfl) (by kernel_rfl) @h
def s105_p6 (K : Value → World → Prop) (B1 : List Value → World → Prop) (B2 : List Value → World → Prop) (t1 t3 t41 t42 t43 t47 t48 t49 : Value) (w : World) : Prop :=
  boI .lss t49 t48 (fun t50 w =>
  ifb t50
  (ixs 1 t47 t49 (fun t51 w =>
  ld1 t51 (fun t52 w =>
  cl Tryz.prog 132 #[t3, t52] (fun t54 w =>
  boI .add t49 (.int .i64 1) (fun t55 w =>
  B2 [t1, t3, t41, t42, t43, t47, t48, t55] w) w) w) w) w)
  (s105_p5 K B1 t1 t3 t41 t42 t43 w)) w
def s105_p6_den (K : Value → World → Prop) (M1 : (Nat → Value) → World → Prop) (M2 : (Nat → Value) → World → Prop) : (Nat → Value) → World → Prop := denL Tryz.prog [(cd (Tryz.f105.body.getD .skip) [1, 1, 1, 1, 0, 1, 0, 0, 1, 1, 0, 0, 1, 1, 0, 0, 0]), (cd (Tryz.f105.body.getD .skip) [1, 1, 1, 1, 0, 1, 0, 0, 1, 1, 0, 0, 1, 1, 0, 0, 1, 0]), (cd (Tryz.f105.body.getD .skip) [1, 1, 1, 1, 0, 1, 0, 0, 1, 1, 0, 0, 1, 1, 0, 0, 1, 1, 0]), (cd (Tryz.f105.body.getD .skip) [1, 1, 1, 1, 0, 1, 0, 0, 1, 1, 0, 0, 1, 1, 0, 0, 1, 1, 1])] M2 (fun i => (bif Nat.beq i 6 then (s105_p5_den K M1) else (bif Nat.beq i 5 then (s105_p5_den K M1) else (bif Nat.beq i 4 then (s105_p4_den K) else (fun _ _ => False))))) (s105_R K)
theorem s105_p6_ok (K : Value → World → Prop) (B1 : List Value → World → Prop) (B2 : List Value → World → Prop) (s : Nat → Value) (w : World) (h : s105_p6 K B1 B2 (s 1) (s 3) (s 41) (s 42) (s 43) (s 47) (s 48) (s 49) w) : Tr (s105_p6_den K (fun s w => B1 [s 1, s 3, s 41, s 42, s 43] w) (fun s w => B2 [s 1, s 3, s 41, s 42, s 43, s 47, s 48, s 49] w) s w) :=
  tr_simple (P := Tryz.prog) (codes := [(cd (Tryz.f105.body.getD .skip) [1, 1, 1, 1, 0, 1, 0, 0, 1, 1, 0, 0, 1, 1, 0, 0, 0]), (cd (Tryz.f105.body.getD .skip) [1, 1, 1, 1, 0, 1, 0, 0, 1, 1, 0, 0, 1, 1, 0, 0, 1, 0]), (cd (Tryz.f105.body.getD .skip) [1, 1, 1, 1, 0, 1, 0, 0, 1, 1, 0, 0, 1, 1, 0, 0, 1, 1, 0]), (cd (Tryz.f105.body.getD .skip) [1, 1, 1, 1, 0, 1, 0, 0, 1, 1, 0, 0, 1, 1, 0, 0, 1, 1, 1])]) (N := (fun s w => B2 [s 1, s 3, s 41, s 42, s 43, s 47, s 48, s 49] w)) (N' := (fun s w => B2 [s 1, s 3, s 41, s 42, s 43, s 47, s 48, s 49] w)) (X := (fun i => (bif Nat.beq i 6 then (fun s w => s105_p5 K B1 (s 1) (s 3) (s 41) (s 42) (s 43) w) else (bif Nat.beq i 5 then (fun s w => s105_p5 K B1 (s 1) (s 3) (s 41) (s 42) (s 43) w) else (bif Nat.beq i 4 then (fun s w => s105_p4 K (s 1) (s 3) w) else (fun _ _ => False)))))) (X' := (fun i => (bif Nat.beq i 6 then (s105_p5_den K (fun s w => B1 [s 1, s 3, s 41, s 42, s 43] w)) else (bif Nat.beq i 5 then (s105_p5_den K (fun s w => B1 [s 1, s 3, s 41, s 42, s 43] w)) else (bif Nat.beq i 4 then (s105_p4_den K) else (fun _ _ => False)))))) (R := s105_R K) (s := s) (w := w) (p := s105_p6 K B1 B2 (s 1) (s 3) (s 41) (s 42) (s 43) (s 47) (s 48) (s 49) w) (q := s105_p6_den K (fun s w => B1 [s 1, s 3, s 41, s 42, s 43] w) (fun s w => B2 [s 1, s 3, s 41, s 42, s 43, s 47, s 48, s 49] w) s w) tr_id (fun i => (tr_bif (fun s w h => s105_p5_ok K B1 s w @h) (tr_bif (fun s w h => s105_p5_ok K B1 s w @h) (tr_bif (fun s w h => s105_p4_ok K s w @h) tr_id)))) (by kernel_rfl) (by kernel_rfl) @h
def s105_p7_F (K : Value → World → Prop) (B1 : List Value → World → Prop) (B2 : List Value → World → Prop) (l : List Value) (w : World) : Prop :=
  match l with
  | [t1, t3, t41, t42, t43, t47, t48, t49] => s105_p6 K B1 B2 t1 t3 t41 t42 t43 t47 t48 t49 w
  | _ => False
theorem s105_p7_Fe {K : Value → World → Prop} {B1 : List Value → World → Prop} {B2 : List Value → World → Prop} {t1 t3 t41 t42 t43 t47 t48 t49 : Value} {w : World} : s105_p7_F K B1 B2 [t1, t3, t41, t42, t43, t47, t48, t49] w = s105_p6 K B1 B2 t1 t3 t41 t42 t43 t47 t48 t49 w := by kernel_rfl
def s105_p7 (K : Value → World → Prop) (B1 : List Value → World → Prop) (t1 t3 t41 t42 t43 t47 t48 t49 : Value) (w : World) : Prop :=
  LoopL (s105_p7_F K B1) [t1, t3, t41, t42, t43, t47, t48, t49] w
def s105_p7_den (K : Value → World → Prop) (M1 : (Nat → Value) → World → Prop) : (Nat → Value) → World → Prop := fun s w => LoopP (fun M2 s w => s105_p6_den K M1 M2 s w) s w
theorem s105_p7_ok (K : Value → World → Prop) (B1 : List Value → World → Prop) (s : Nat → Value) (w : World) (h : s105_p7 K B1 (s 1) (s 3) (s 41) (s 42) (s 43) (s 47) (s 48) (s 49) w) : Tr (s105_p7_den K (fun s w => B1 [s 1, s 3, s 41, s 42, s 43] w) s w) :=
  tr_loop (G := fun N' s w => s105_p6_den K (fun s w => B1 [s 1, s 3, s 41, s 42, s 43] w) N' s w) (F := s105_p7_F K B1) (sel := fun s => [s 1, s 3, s 41, s 42, s 43, s 47, s 48, s 49]) (s := s) (w := w) (p := s105_p7 K B1 (s 1) (s 3) (s 41) (s 42) (s 43) (s 47) (s 48) (s 49) w) (q := s105_p7_den K (fun s w => B1 [s 1, s 3, s 41, s 42, s 43] w) s w) (fun B s w h => s105_p6_ok K B1 B s w @h) (by kernel_rfl) (by kernel_rfl) @h
def s105_p8 (K : Value → World → Prop) (B1 : List Value → World → Prop) (t1 t3 t41 t42 t43 : Value) (w : World) : Prop :=
  ixs 1 t41 t43 (fun t45 w =>
  ld1 t45 (fun t46 w =>
  lnS t46 (fun t48 w =>
  s105_p7 K B1 t1 t3 t41 t42 t43 t46 t48 (.int .i64 0) w) w) w) w
def s105_p8_den (K : Value → World → Prop) (M1 : (Nat → Value) → World → Prop) : (Nat → Value) → World → Prop := denL Tryz.prog [(cd (Tryz.f105.body.getD .skip) [1, 1, 1, 1, 0, 1, 0, 0, 1, 1, 0, 0, 0]), (cd (Tryz.f105.body.getD .skip) [1, 1, 1, 1, 0, 1, 0, 0, 1, 1, 0, 0, 1, 0])] (s105_p7_den K M1) (fun i => (bif Nat.beq i 5 then (s105_p5_den K M1) else (bif Nat.beq i 4 then (s105_p4_den K) else (fun _ _ => False)))) (s105_R K)
theorem s105_p8_ok (K : Value → World → Prop) (B1 : List Value → World → Prop) (s : Nat → Value) (w : World) (h : s105_p8 K B1 (s 1) (s 3) (s 41) (s 42) (s 43) w) : Tr (s105_p8_den K (fun s w => B1 [s 1, s 3, s 41, s 42, s 43] w) s w) :=
  tr_simple (P := Tryz.prog) (codes := [(cd (Tryz.f105.body.getD .skip) [1, 1, 1, 1, 0, 1, 0, 0, 1, 1, 0, 0, 0]), (cd (Tryz.f105.body.getD .skip) [1, 1, 1, 1, 0, 1, 0, 0, 1, 1, 0, 0, 1, 0])]) (N := (fun s w => s105_p7 K B1 (s 1) (s 3) (s 41) (s 42) (s 43) (s 47) (s 48) (s 49) w)) (N' := (s105_p7_den K (fun s w => B1 [s 1, s 3, s 41, s 42, s 43] w))) (X := (fun i => (bif Nat.beq i 5 then (fun s w => s105_p5 K B1 (s 1) (s 3) (s 41) (s 42) (s 43) w) else (bif Nat.beq i 4 then (fun s w => s105_p4 K (s 1) (s 3) w) else (fun _ _ => False))))) (X' := (fun i => (bif Nat.beq i 5 then (s105_p5_den K (fun s w => B1 [s 1, s 3, s 41, s 42, s 43] w)) else (bif Nat.beq i 4 then (s105_p4_den K) else (fun _ _ => False))))) (R := s105_R K) (s := s) (w := w) (p := s105_p8 K B1 (s 1) (s 3) (s 41) (s 42) (s 43) w) (q := s105_p8_den K (fun s w => B1 [s 1, s 3, s 41, s 42, s 43] w) s w) (fun s w h => s105_p7_ok K B1 s w @h) (fun i => (tr_bif (fun s w h => s105_p5_ok K B1 s w @h) (tr_bif (fun s w h => s105_p4_ok K s w @h) tr_id))) (by kernel_rfl) (by kernel_rfl) @h
def s105_p9 (K : Value → World → Prop) (B1 : List Value → World → Prop) (t1 t3 t41 t42 t43 : Value) (w : World) : Prop :=
  boI .lss t43 t42 (fun t44 w =>
  ifb t44
  (s105_p8 K B1 t1 t3 t41 t42 t43 w)
  (s105_p4 K t1 t3 w)) w
def s105_p9_den (K : Value → World → Prop) (M1 : (Nat → Value) → World → Prop) : (Nat → Value) → World → Prop := denL Tryz.prog [(cd (Tryz.f105.body.getD .skip) [1, 1, 1, 1, 0, 1, 0, 0, 0]), (cd (Tryz.f105.body.getD .skip) [1, 1, 1, 1, 0, 1, 0, 0, 1, 0])] (s105_p8_den K M1) (fun i => (bif Nat.beq i 4 then (s105_p4_den K) else (fun _ _ => False))) (s105_R K)
theorem s105_p9_ok (K : Value → World → Prop) (B1 : List Value → World → Prop) (s : Nat → Value) (w : World) (h : s105_p9 K B1 (s 1) (s 3) (s 41) (s 42) (s 43) w) : Tr (s105_p9_den K (fun s w => B1 [s 1, s 3, s 41, s 42, s 43] w) s w) :=
  tr_simple (P := Tryz.prog) (codes := [(cd (Tryz.f105.body.getD .skip) [1, 1, 1, 1, 0, 1, 0, 0, 0]), (cd (Tryz.f105.body.getD .skip) [1, 1, 1, 1, 0, 1, 0, 0, 1, 0])]) (N := (fun s w => s105_p8 K B1 (s 1) (s 3) (s 41) (s 42) (s 43) w)) (N' := (s105_p8_den K (fun s w => B1 [s 1, s 3, s 41, s 42, s 43] w))) (X := (fun i => (bif Nat.beq i 4 then (fun s w => s105_p4 K (s 1) (s 3) w) else (fun _ _ => False)))) (X' := (fun i => (bif Nat.beq i 4 then (s105_p4_den K) else (fun _ _ => False)))) (R := s105_R K) (s := s) (w := w) (p := s105_p9 K B1 (s 1) (s 3) (s 41) (s 42) (s 43) w) (q := s105_p9_den K (fun s w => B1 [s 1, s 3, s 41, s 42, s 43] w) s w) (fun s w h => s105_p8_ok K B1 s w @h) (fun i => (tr_bif (fun s w h => s105_p4_ok K s w @h) tr_id)) (by kernel_rfl) (by kernel_rfl) @h
def s105_p10_F (K : Value → World → Prop) (B1 : List Value → World → Prop) (l : List Value) (w : World) : Prop :=
  match l with
  | [t1, t3, t41, t42, t43] => s105_p9 K B1 t1 t3 t41 t42 t43 w
  | _ => False
theorem s105_p10_Fe {K : Value → World → Prop} {B1 : List Value → World → Prop} {t1 t3 t41 t42 t43 : Value} {w : World} : s105_p10_F K B1 [t1, t3, t41, t42, t43] w = s105_p9 K B1 t1 t3 t41 t42 t43 w := by kernel_rfl
def s105_p10 (K : Value → World → Prop) (t1 t3 t41 t42 t43 : Value) (w : World) : Prop :=
  LoopL (s105_p10_F K) [t1, t3, t41, t42, t43] w
def s105_p10_den (K : Value → World → Prop) : (Nat → Value) → World → Prop := fun s w => LoopP (fun M1 s w => s105_p9_den K M1 s w) s w
theorem s105_p10_ok (K : Value → World → Prop) (s : Nat → Value) (w : World) (h : s105_p10 K (s 1) (s 3) (s 41) (s 42) (s 43) w) : Tr (s105_p10_den K s w) :=
  tr_loop (G := fun N' s w => s105_p9_den K N' s w) (F := s105_p10_F K) (sel := fun s => [s 1, s 3, s 41, s 42, s 43]) (s := s) (w := w) (p := s105_p10 K (s 1) (s 3) (s 41) (s 42) (s 43) w) (q := s105_p10_den K s w) (fun B s w h => s105_p9_ok K B s w @h) (by kernel_rfl) (by kernel_rfl) @h
def s105_p11 (K : Value → World → Prop) (t1 t3 : Value) (w : World) : Prop :=
  fd 1 t1 (fun t40 w =>
  ld1 t40 (fun t41 w =>
  lnS t41 (fun t42 w =>
  s105_p10 K t1 t3 t41 t42 (.int .i64 0) w) w) w) w
def s105_p11_den (K : Value → World → Prop) : (Nat → Value) → World → Prop := denL Tryz.prog [(cd (Tryz.f105.body.getD .skip) [1, 1, 1, 1, 0, 0])] (s105_p10_den K) (fun i => (fun _ _ => False)) (s105_R K)
theorem s105_p11_ok (K : Value → World → Prop) (s : Nat → Value) (w : World) (h : s105_p11 K (s 1) (s 3) w) : Tr (s105_p11_den K s w) :=
  tr_simple (P := Tryz.prog) (codes := [(cd (Tryz.f105.body.getD .skip) [1, 1, 1, 1, 0, 0])]) (N := (fun s w => s105_p10 K (s 1) (s 3) (s 41) (s 42) (s 43) w)) (N' := (s105_p10_den K)) (X := (fun i => (fun _ _ => False))) (X' := (fun i => (fun _ _ => False))) (R := s105_R K) (s := s) (w := w) (p := s105_p11 K (s 1) (s 3) w) (q := s105_p11_den K s w) (fun s w h => s105_p10_ok K s w @h) (fun i => tr_id) (by kernel_rfl) (by kernel_rfl) @h
def s105_p12 (K : Value → World → Prop) (B1 : List Value → World → Prop) (t1 t3 t19 t20 t21 : Value) (w : World) : Prop :=
  boI .add t21 (.int .i64 1) (fun t39 w =>
  B1 [t1, t3, t19, t20, t39] w) w
def s105_p12_den (K : Value → World → Prop) (M1 : (Nat → Value) → World → Prop) : (Nat → Value) → World → Prop := denL Tryz.prog [(cd (Tryz.f105.body.getD .skip) [1, 1, 1, 0, 1, 0, 0, 1, 1, 1])] M1 (fun i => (bif Nat.beq i 0 then (s105_p11_den K) else (fun _ _ => False))) (s105_R K)
theorem s105_p12_ok (K : Value → World → Prop) (B1 : List Value → World → Prop) (s : Nat → Value) (w : World) (h : s105_p12 K B1 (s 1) (s 3) (s 19) (s 20) (s 21) w) : Tr (s105_p12_den K (fun s w => B1 [s 1, s 3, s 19, s 20, s 21] w) s w) :=
  tr_simple (P := Tryz.prog) (codes := [(cd (Tryz.f105.body.getD .skip) [1, 1, 1, 0, 1, 0, 0, 1, 1, 1])]) (N := (fun s w => B1 [s 1, s 3, s 19, s 20, s 21] w)) (N' := (fun s w => B1 [s 1, s 3, s 19, s 20, s 21] w)) (X := (fun i => (bif Nat.beq i 0 then (fun s w => s105_p11 K (s 1) (s 3) w) else (fun _ _ => False)))) (X' := (fun i => (bif Nat.beq i 0 then (s105_p11_den K) else (fun _ _ => False)))) (R := s105_R K) (s := s) (w := w) (p := s105_p12 K B1 (s 1) (s 3) (s 19) (s 20) (s 21) w) (q := s105_p12_den K (fun s w => B1 [s 1, s 3, s 19, s 20, s 21] w) s w) tr_id (fun i => (tr_bif (fun s w h => s105_p11_ok K s w @h) tr_id)) (by kernel_rfl) (by kernel_rfl) @h
def s105_p13 (K : Value → World → Prop) (B1 : List Value → World → Prop) (B2 : List Value → World → Prop) (t1 t3 t19 t20 t21 t32 t33 : Value) (w : World) : Prop :=
  boI .lss t33 (.int .i64 3) (fun t34 w =>
  ifb t34
  (iv Tryz.prog 42 t32 t33 (fun t35 w =>
  cl Tryz.prog 132 #[t3, t35] (fun t37 w =>
  boI .add t33 (.int .i64 1) (fun t38 w =>
  B2 [t1, t3, t19, t20, t21, t32, t38] w) w) w) w)
  (s105_p12 K B1 t1 t3 t19 t20 t21 w)) w
def s105_p13_den (K : Value → World → Prop) (M1 : (Nat → Value) → World → Prop) (M2 : (Nat → Value) → World → Prop) : (Nat → Value) → World → Prop := denL Tryz.prog [(cd (Tryz.f105.body.getD .skip) [1, 1, 1, 0, 1, 0, 0, 1, 1, 0, 0, 1, 1, 1, 1, 0, 0, 0]), (cd (Tryz.f105.body.getD .skip) [1, 1, 1, 0, 1, 0, 0, 1, 1, 0, 0, 1, 1, 1, 1, 0, 0, 1, 0]), (cd (Tryz.f105.body.getD .skip) [1, 1, 1, 0, 1, 0, 0, 1, 1, 0, 0, 1, 1, 1, 1, 0, 0, 1, 1, 0]), (cd (Tryz.f105.body.getD .skip) [1, 1, 1, 0, 1, 0, 0, 1, 1, 0, 0, 1, 1, 1, 1, 0, 0, 1, 1, 1])] M2 (fun i => (bif Nat.beq i 2 then (s105_p12_den K M1) else (bif Nat.beq i 1 then (s105_p12_den K M1) else (bif Nat.beq i 0 then (s105_p11_den K) else (fun _ _ => False))))) (s105_R K)
theorem s105_p13_ok (K : Value → World → Prop) (B1 : List Value → World → Prop) (B2 : List Value → World → Prop) (s : Nat → Value) (w : World) (h : s105_p13 K B1 B2 (s 1) (s 3) (s 19) (s 20) (s 21) (s 32) (s 33) w) : Tr (s105_p13_den K (fun s w => B1 [s 1, s 3, s 19, s 20, s 21] w) (fun s w => B2 [s 1, s 3, s 19, s 20, s 21, s 32, s 33] w) s w) :=
  tr_simple (P := Tryz.prog) (codes := [(cd (Tryz.f105.body.getD .skip) [1, 1, 1, 0, 1, 0, 0, 1, 1, 0, 0, 1, 1, 1, 1, 0, 0, 0]), (cd (Tryz.f105.body.getD .skip) [1, 1, 1, 0, 1, 0, 0, 1, 1, 0, 0, 1, 1, 1, 1, 0, 0, 1, 0]), (cd (Tryz.f105.body.getD .skip) [1, 1, 1, 0, 1, 0, 0, 1, 1, 0, 0, 1, 1, 1, 1, 0, 0, 1, 1, 0]), (cd (Tryz.f105.body.getD .skip) [1, 1, 1, 0, 1, 0, 0, 1, 1, 0, 0, 1, 1, 1, 1, 0, 0, 1, 1, 1])]) (N := (fun s w => B2 [s 1, s 3, s 19, s 20, s 21, s 32, s 33] w)) (N' := (fun s w => B2 [s 1, s 3, s 19, s 20, s 21, s 32, s 33] w)) (X := (fun i => (bif Nat.beq i 2 then (fun s w => s105_p12 K B1 (s 1) (s 3) (s 19) (s 20) (s 21) w) else (bif Nat.beq i 1 then (fun s w => s105_p12 K B1 (s 1) (s 3) (s 19) (s 20) (s 21) w) else (bif Nat.beq i 0 then (fun s w => s105_p11 K (s 1) (s 3) w) else (fun _ _ => False)))))) (X' := (fun i => (bif Nat.beq i 2 then (s105_p12_den K (fun s w => B1 [s 1, s 3, s 19, s 20, s 21] w)) else (bif Nat.beq i 1 then (s105_p12_den K (fun s w => B1 [s 1, s 3, s 19, s 20, s 21] w)) else (bif Nat.beq i 0 then (s105_p11_den K) else (fun _ _ => False)))))) (R := s105_R K) (s := s) (w := w) (p := s105_p13 K B1 B2 (s 1) (s 3) (s 19) (s 20) (s 21) (s 32) (s 33) w) (q := s105_p13_den K (fun s w => B1 [s 1, s 3, s 19, s 20, s 21] w) (fun s w => B2 [s 1, s 3, s 19, s 20, s 21, s 32, s 33] w) s w) tr_id (fun i => (tr_bif (fun s w h => s105_p12_ok K B1 s w @h) (tr_bif (fun s w h => s105_p12_ok K B1 s w @h) (tr_bif (fun s w h => s105_p11_ok K s w @h) tr_id)))) (by kernel_rfl) (by kernel_rfl) @h
def s105_p14_F (K : Value → World → Prop) (B1 : List Value → World → Prop) (B2 : List Value → World → Prop) (l : List Value) (w : World) : Prop :=
  match l with
  | [t1, t3, t19, t20, t21, t32, t33] => s105_p13 K B1 B2 t1 t3 t19 t20 t21 t32 t33 w
  | _ => False
theorem s105_p14_Fe {K : Value → World → Prop} {B1 : List Value → World → Prop} {B2 : List Value → World → Prop} {t1 t3 t19 t20 t21 t32 t33 : Value} {w : World} : s105_p14_F K B1 B2 [t1, t3, t19, t20, t21, t32, t33] w = s105_p13 K B1 B2 t1 t3 t19 t20 t21 t32 t33 w := by kernel_rfl
def s105_p14 (K : Value → World → Prop) (B1 : List Value → World → Prop) (t1 t3 t19 t20 t21 t32 t33 : Value) (w : World) : Prop :=
  LoopL (s105_p14_F K B1) [t1, t3, t19, t20, t21, t32, t33] w
def s105_p14_den (K : Value → World → Prop) (M1 : (Nat → Value) → World → Prop) : (Nat → Value) → World → Prop := fun s w => LoopP (fun M2 s w => s105_p13_den K M1 M2 s w) s w
theorem s105_p14_ok (K : Value → World → Prop) (B1 : List Value → World → Prop) (s : Nat → Value) (w : World) (h : s105_p14 K B1 (s 1) (s 3) (s 19) (s 20) (s 21) (s 32) (s 33) w) : Tr (s105_p14_den K (fun s w => B1 [s 1, s 3, s 19, s 20, s 21] w) s w) :=
  tr_loop (G := fun N' s w => s105_p13_den K (fun s w => B1 [s 1, s 3, s 19, s 20, s 21] w) N' s w) (F := s105_p14_F K B1) (sel := fun s => [s 1, s 3, s 19, s 20, s 21, s 32, s 33]) (s := s) (w := w) (p := s105_p14 K B1 (s 1) (s 3) (s 19) (s 20) (s 21) (s 32) (s 33) w) (q := s105_p14_den K (fun s w => B1 [s 1, s 3, s 19, s 20, s 21] w) s w) (fun B s w h => s105_p13_ok K B1 B s w @h) (by kernel_rfl) (by kernel_rfl) @h
def s105_p15 (K : Value → World → Prop) (B1 : List Value → World → Prop) (t1 t3 t19 t20 t21 : Value) (w : World) : Prop :=
  ixs 5 t19 t21 (fun t23 w =>
  ldn 5 t23 (fun t24 w =>
  nw 129 #[(.int .i64 0), (.int .i64 0), (.int .i64 0), (.int .i64 0), (.int .i64 0)] (fun t5 w =>
  stn 5 t5 t24 (fun w =>
  fd 0 t5 (fun t25 w =>
  ld1 t25 (fun t26 w =>
  cl Tryz.prog 132 #[t3, t26] (fun t27 w =>
  fd 1 t5 (fun t28 w =>
  ld1 t28 (fun t29 w =>
  cl Tryz.prog 132 #[t3, t29] (fun t30 w =>
  fd 2 t5 (fun t31 w =>
  ldn 3 t31 (fun t32 w =>
  s105_p14 K B1 t1 t3 t19 t20 t21 t32 (.int .i64 0) w) w) w) w) w) w) w) w) w) w) w) w) w
def s105_p15_den (K : Value → World → Prop) (M1 : (Nat → Value) → World → Prop) : (Nat → Value) → World → Prop := denL Tryz.prog [(cd (Tryz.f105.body.getD .skip) [1, 1, 1, 0, 1, 0, 0, 1, 1, 0, 0, 0]), (cd (Tryz.f105.body.getD .skip) [1, 1, 1, 0, 1, 0, 0, 1, 1, 0, 0, 1, 0]), (cd (Tryz.f105.body.getD .skip) [1, 1, 1, 0, 1, 0, 0, 1, 1, 0, 0, 1, 1, 0]), (cd (Tryz.f105.body.getD .skip) [1, 1, 1, 0, 1, 0, 0, 1, 1, 0, 0, 1, 1, 1, 0])] (s105_p14_den K M1) (fun i => (bif Nat.beq i 1 then (s105_p12_den K M1) else (bif Nat.beq i 0 then (s105_p11_den K) else (fun _ _ => False)))) (s105_R K)
theorem s105_p15_ok (K : Value → World → Prop) (B1 : List Value → World → Prop) (s : Nat → Value) (w : World) (h : s105_p15 K B1 (s 1) (s 3) (s 19) (s 20) (s 21) w) : Tr (s105_p15_den K (fun s w => B1 [s 1, s 3, s 19, s 20, s 21] w) s w) :=
  tr_simple (P := Tryz.prog) (codes := [(cd (Tryz.f105.body.getD .skip) [1, 1, 1, 0, 1, 0, 0, 1, 1, 0, 0, 0]), (cd (Tryz.f105.body.getD .skip) [1, 1, 1, 0, 1, 0, 0, 1, 1, 0, 0, 1, 0]), (cd (Tryz.f105.body.getD .skip) [1, 1, 1, 0, 1, 0, 0, 1, 1, 0, 0, 1, 1, 0]), (cd (Tryz.f105.body.getD .skip) [1, 1, 1, 0, 1, 0, 0, 1, 1, 0, 0, 1, 1, 1, 0])]) (N := (fun s w => s105_p14 K B1 (s 1) (s 3) (s 19) (s 20) (s 21) (s 32) (s 33) w)) (N' := (s105_p14_den K (fun s w => B1 [s 1, s 3, s 19, s 20, s 21] w))) (X := (fun i => (bif Nat.beq i 1 then (fun s w => s105_p12 K B1 (s 1) (s 3) (s 19) (s 20) (s 21) w) else (bif Nat.beq i 0 then (fun s w => s105_p11 K (s 1) (s 3) w) else (fun _ _ => False))))) (X' := (fun i => (bif Nat.beq i 1 then (s105_p12_den K (fun s w => B1 [s 1, s 3, s 19, s 20, s 21] w)) else (bif Nat.beq i 0 then (s105_p11_den K) else (fun _ _ => False))))) (R := s105_R K) (s := s) (w := w) (p := s105_p15 K B1 (s 1) (s 3) (s 19) (s 20) (s 21) w) (q := s105_p15_den K (fun s w => B1 [s 1, s 3, s 19, s 20, s 21] w) s w) (fun s w h => s105_p14_ok K B1 s w @h) (fun i => (tr_bif (fun s w h => s105_p12_ok K B1 s w @h) (tr_bif (fun s w h => s105_p11_ok K s w @h) tr_id))) (by kernel_rfl) (by kernel_rfl) @h
def s105_p16 (K : Value → World → Prop) (B1 : List Value → World → Prop) (t1 t3 t19 t20 t21 : Value) (w : World) : Prop :=
  boI .lss t21 t20 (fun t22 w =>
  ifb t22
  (s105_p15 K B1 t1 t3 t19 t20 t21 w)
  (s105_p11 K t1 t3 w)) w
def s105_p16_den (K : Value → World → Prop) (M1 : (Nat → Value) → World → Prop) : (Nat → Value) → World → Prop := denL Tryz.prog [(cd (Tryz.f105.body.getD .skip) [1, 1, 1, 0, 1, 0, 0, 0]), (cd (Tryz.f105.body.getD .skip) [1, 1, 1, 0, 1, 0, 0, 1, 0])] (s105_p15_den K M1) (fun i => (bif Nat.beq i 0 then (s105_p11_den K) else (fun _ _ => False))) (s105_R K)
theorem s105_p16_ok (K : Value → World → Prop) (B1 : List Value → World → Prop) (s : Nat → Value) (w : World) (h : s105_p16 K B1 (s 1) (s 3) (s 19) (s 20) (s 21) w) : Tr (s105_p16_den K (fun s w => B1 [s 1, s 3, s 19, s 20, s 21] w) s w) :=
  tr_simple (P := Tryz.prog) (codes := [(cd (Tryz.f105.body.getD .skip) [1, 1, 1, 0, 1, 0, 0, 0]), (cd (Tryz.f105.body.getD .skip) [1, 1, 1, 0, 1, 0, 0, 1, 0])]) (N := (fun s w => s105_p15 K B1 (s 1) (s 3) (s 19) (s 20) (s 21) w)) (N' := (s105_p15_den K (fun s w => B1 [s 1, s 3, s 19, s 20, s 21] w))) (X := (fun i => (bif Nat.beq i 0 then (fun s w => s105_p11 K (s 1) (s 3) w) else (fun _ _ => False)))) (X' := (fun i => (bif Nat.beq i 0 then (s105_p11_den K) else (fun _ _ => False)))) (R := s105_R K) (s := s) (w := w) (p := s105_p16 K B1 (s 1) (s 3) (s 19) (s 20) (s 21) w) (q := s105_p16_den K (fun s w => B1 [s 1, s 3, s 19, s 20, s 21] w) s w) (fun s w h => s105_p15_ok K B1 s w @h) (fun i => (tr_bif (fun s w h => s105_p11_ok K s w @h) tr_id)) (by kernel_rfl) (by kernel_rfl) @h
def s105_p17_F (K : Value → World → Prop) (B1 : List Value → World → Prop) (l : List Value) (w : World) : Prop :=
  match l with
  | [t1, t3, t19, t20, t21] => s105_p16 K B1 t1 t3 t19 t20 t21 w
  | _ => False
theorem s105_p17_Fe {K : Value → World → Prop} {B1 : List Value → World → Prop} {t1 t3 t19 t20 t21 : Value} {w : World} : s105_p17_F K B1 [t1, t3, t19, t20, t21] w = s105_p16 K B1 t1 t3 t19 t20 t21 w := by kernel_rfl
def s105_p17 (K : Value → World → Prop) (t1 t3 t19 t20 t21 : Value) (w : World) : Prop :=
  LoopL (s105_p17_F K) [t1, t3, t19, t20, t21] w
def s105_p17_den (K : Value → World → Prop) : (Nat → Value) → World → Prop := fun s w => LoopP (fun M1 s w => s105_p16_den K M1 s w) s w
theorem s105_p17_ok (K : Value → World → Prop) (s : Nat → Value) (w : World) (h : s105_p17 K (s 1) (s 3) (s 19) (s 20) (s 21) w) : Tr (s105_p17_den K s w) :=
  tr_loop (G := fun N' s w => s105_p16_den K N' s w) (F := s105_p17_F K) (sel := fun s => [s 1, s 3, s 19, s 20, s 21]) (s := s) (w := w) (p := s105_p17 K (s 1) (s 3) (s 19) (s 20) (s 21) w) (q := s105_p17_den K s w) (fun B s w h => s105_p16_ok K B s w @h) (by kernel_rfl) (by kernel_rfl) @h
def s105_p18 (K : Value → World → Prop) (t0 : Value) (w : World) : Prop :=
  nw 75 (t0).cells (fun t1 w =>
  nw 205 #[(.int .u32 0)] (fun t3 w =>
  st1 t3 (.int .u32 2166136261) (fun w =>
  fd 0 t1 (fun t14 w =>
  ld1 t14 (fun t15 w =>
  lnS t15 (fun t16 w =>
  cl Tryz.prog 132 #[t3, t16] (fun t17 w =>
  fd 0 t1 (fun t18 w =>
  ld1 t18 (fun t19 w =>
  lnS t19 (fun t20 w =>
  s105_p17 K t1 t3 t19 t20 (.int .i64 0) w) w) w) w) w) w) w) w) w) w) w
def s105_p18_den (K : Value → World → Prop) : (Nat → Value) → World → Prop := denL Tryz.prog [(cd (Tryz.f105.body.getD .skip) [0]), (cd (Tryz.f105.body.getD .skip) [1, 0]), (cd (Tryz.f105.body.getD .skip) [1, 1, 0]), (cd (Tryz.f105.body.getD .skip) [1, 1, 1, 0, 0])] (s105_p17_den K) (fun i => (fun _ _ => False)) (s105_R K)
theorem s105_p18_ok (K : Value → World → Prop) (s : Nat → Value) (w : World) (h : s105_p18 K (s 0) w) : Tr (s105_p18_den K s w) :=
  tr_simple (P := Tryz.prog) (codes := [(cd (Tryz.f105.body.getD .skip) [0]), (cd (Tryz.f105.body.getD .skip) [1, 0]), (cd (Tryz.f105.body.getD .skip) [1, 1, 0]), (cd (Tryz.f105.body.getD .skip) [1, 1, 1, 0, 0])]) (N := (fun s w => s105_p17 K (s 1) (s 3) (s 19) (s 20) (s 21) w)) (N' := (s105_p17_den K)) (X := (fun i => (fun _ _ => False))) (X' := (fun i => (fun _ _ => False))) (R := s105_R K) (s := s) (w := w) (p := s105_p18 K (s 0) w) (q := s105_p18_den K s w) (fun s w h => s105_p17_ok K s w @h) (fun i => tr_id) (by kernel_rfl) (by kernel_rfl) @h
/-- the call, from the text -/
theorem c105 (t0 : Value) {K : Value → World → Prop} {w : World} (h : s105_p18 K t0 w) : cl Tryz.prog 105 #[t0] K w :=
  calls_of_tr (c := (Tryz.f105.body.getD .skip)) (fn := Tryz.f105) (q := s105_p18_den K (st0 #[t0]) w) Tryz.func105 (by kernel_rfl) (by kernel_rfl) (Nat.le_of_ble_eq_true (by kernel_rfl)) (by kernel_rfl) (by kernel_rfl) (s105_p18_ok K (st0 #[t0]) w @h)

end Go.Proofs.Qxb6500896aGreatDoor
