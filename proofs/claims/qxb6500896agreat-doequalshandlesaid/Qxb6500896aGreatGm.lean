import Derived.Test.Qxb6500896aGreatProg
import Derived.Test.Qxb6500896aGreatShTr
namespace Go.Proofs.Qxb6500896aGreat
open Go.Sh Go.RowKit
set_option linter.unusedVariables false
set_option maxRecDepth 100000

/-! ### function 9 : e2e.enginelaw.SnapshotsFollowThePolicy -/
def s9_R (K : Value → World → Prop) (s : Nat → Value) (w : World) : Prop := retv Tryz.prog s Tryz.f9.results.toList (fun vs => K (pack vs) w) w
def s9_p1 (K : Value → World → Prop) (w : World) : Prop :=
  K (.bool true) w
def s9_p1_den (K : Value → World → Prop) : (Nat → Value) → World → Prop := denL Tryz.prog [(cd (Tryz.f9.body.getD .skip) [1, 1, 1, 1, 0]), (cd (Tryz.f9.body.getD .skip) [1, 1, 1, 1, 1])] (fun _ _ => False) (fun i => (fun _ _ => False)) (s9_R K)
theorem s9_p1_ok (K : Value → World → Prop) (s : Nat → Value) (w : World) (h : s9_p1 K w) : Tr (s9_p1_den K s w) :=
  tr_simple (P := Tryz.prog) (codes := [(cd (Tryz.f9.body.getD .skip) [1, 1, 1, 1, 0]), (cd (Tryz.f9.body.getD .skip) [1, 1, 1, 1, 1])]) (N := (fun _ _ => False)) (N' := (fun _ _ => False)) (X := (fun i => (fun _ _ => False))) (X' := (fun i => (fun _ _ => False))) (R := s9_R K) (s := s) (w := w) (p := s9_p1 K w) (q := s9_p1_den K s w) tr_id (fun i => tr_id) (by kernel_rfl) (by kernel_rfl) @h
def s9_p2 (K : Value → World → Prop) (B1 : List Value → World → Prop) (t3 t18 t19 t20 : Value) (w : World) : Prop :=
  boI .add t20 (.int .i64 1) (fun t98 w =>
  B1 [t3, t18, t19, t98] w) w
def s9_p2_den (K : Value → World → Prop) (M1 : (Nat → Value) → World → Prop) : (Nat → Value) → World → Prop := denL Tryz.prog [(cd (Tryz.f9.body.getD .skip) [1, 1, 1, 0, 1, 0, 0, 1, 1, 1])] M1 (fun i => (bif Nat.beq i 0 then (s9_p1_den K) else (fun _ _ => False))) (s9_R K)
theorem s9_p2_ok (K : Value → World → Prop) (B1 : List Value → World → Prop) (s : Nat → Value) (w : World) (h : s9_p2 K B1 (s 3) (s 18) (s 19) (s 20) w) : Tr (s9_p2_den K (fun s w => B1 [s 3, s 18, s 19, s 20] w) s w) :=
  tr_simple (P := Tryz.prog) (codes := [(cd (Tryz.f9.body.getD .skip) [1, 1, 1, 0, 1, 0, 0, 1, 1, 1])]) (N := (fun s w => B1 [s 3, s 18, s 19, s 20] w)) (N' := (fun s w => B1 [s 3, s 18, s 19, s 20] w)) (X := (fun i => (bif Nat.beq i 0 then (fun s w => s9_p1 K w) else (fun _ _ => False)))) (X' := (fun i => (bif Nat.beq i 0 then (s9_p1_den K) else (fun _ _ => False)))) (R := s9_R K) (s := s) (w := w) (p := s9_p2 K B1 (s 3) (s 18) (s 19) (s 20) w) (q := s9_p2_den K (fun s w => B1 [s 3, s 18, s 19, s 20] w) s w) tr_id (fun i => (tr_bif (fun s w h => s9_p1_ok K s w @h) tr_id)) (by kernel_rfl) (by kernel_rfl) @h
def s9_p3 (K : Value → World → Prop) (B1 : List Value → World → Prop) (t3 t5 t6 t7 t8 t9 t18 t19 t20 : Value) (w : World) : Prop :=
  fd 1 t5 (fun t63 w =>
  ld1 t63 (fun t64 w =>
  cl Tryz.prog 24 #[t3, t64] (fun t65 w =>
  nck t3 (fun t67 w =>
  fd 1 t67 (fun t68 w =>
  ld1 t68 (fun t69 w =>
  cl Tryz.prog 49 #[t69] (fun t70 w =>
  fi Tryz.prog 102 t70 3 (fun t71 w =>
  boI .eql t71 t8 (fun t73 w =>
  ifb t73
  (s9_p2 K B1 t3 t18 t19 t20 w)
  (fd 1 t5 (fun t75 w =>
  ld1 t75 (fun t76 w =>
  cl Tryz.prog 28 #[t76] (fun t77 w =>
  exq t77 0 (fun t78 w =>
  exq t77 1 (fun t79 w =>
  nw 52 #[(.int .u8 0), (.int .i64 0), (.int .i64 0), (.int .i64 0), (.int .i64 0), (.int .i64 0), (.int .i64 0), (.slice none 0 0)] (fun t11 w =>
  stn 8 t11 t78 (fun w =>
  boI .neq t79 (.int .i64 0) (fun t81 w =>
  gd t81 false (fd 0 t11) (fun t83 w =>
  gd t81 false (ld1 t83) (fun t84 w =>
  gd t81 false (cl Tryz.prog 30 #[t84]) (fun t85 w =>
  gd t81 false (un .not t85) (fun t86 w =>
  pk t81 (.bool true) t86 (fun t87 w =>
  ifb t87
  (K (.bool false) w)
  (boI .add t6 (.int .i64 1) (fun t89 w =>
  cl Tryz.prog 21 #[] (fun t90 w =>
  fi Tryz.prog 34 t90 13 (fun t91 w =>
  boI .lss t89 t91 (fun t92 w =>
  gd t92 true (fun K w => K t9 w) (fun t94 w =>
  gd t92 true (fun K w => K t7 w) (fun t95 w =>
  gd t92 true (boI .leq t94 t95) (fun t96 w =>
  pk t92 t96 (.bool false) (fun t97 w =>
  ifb t97
  (K (.bool false) w)
  (s9_p2 K B1 t3 t18 t19 t20 w)) w) w) w) w) w) w) w) w)) w) w) w) w) w) w) w) w) w) w) w) w) w)) w) w) w) w) w) w) w) w) w
def s9_p3_den (K : Value → World → Prop) (M1 : (Nat → Value) → World → Prop) : (Nat → Value) → World → Prop := denL Tryz.prog [(cd (Tryz.f9.body.getD .skip) [1, 1, 1, 0, 1, 0, 0, 1, 1, 0, 0, 1, 1, 1, 1, 1, 0]), (cd (Tryz.f9.body.getD .skip) [1, 1, 1, 0, 1, 0, 0, 1, 1, 0, 0, 1, 1, 1, 1, 1, 1, 0, 0]), (cd (Tryz.f9.body.getD .skip) [1, 1, 1, 0, 1, 0, 0, 1, 1, 0, 0, 1, 1, 1, 1, 1, 1, 0, 1]), (cd (Tryz.f9.body.getD .skip) [1, 1, 1, 0, 1, 0, 0, 1, 1, 0, 0, 1, 1, 1, 1, 1, 1, 1, 0]), (cd (Tryz.f9.body.getD .skip) [1, 1, 1, 0, 1, 0, 0, 1, 1, 0, 0, 1, 1, 1, 1, 1, 1, 1, 1, 0, 0]), (cd (Tryz.f9.body.getD .skip) [1, 1, 1, 0, 1, 0, 0, 1, 1, 0, 0, 1, 1, 1, 1, 1, 1, 1, 1, 0, 1]), (cd (Tryz.f9.body.getD .skip) [1, 1, 1, 0, 1, 0, 0, 1, 1, 0, 0, 1, 1, 1, 1, 1, 1, 1, 1, 1, 0]), (cd (Tryz.f9.body.getD .skip) [1, 1, 1, 0, 1, 0, 0, 1, 1, 0, 0, 1, 1, 1, 1, 1, 1, 1, 1, 1, 1])] (s9_p2_den K M1) (fun i => (bif Nat.beq i 1 then (s9_p2_den K M1) else (bif Nat.beq i 0 then (s9_p1_den K) else (fun _ _ => False)))) (s9_R K)
theorem s9_p3_ok (K : Value → World → Prop) (B1 : List Value → World → Prop) (s : Nat → Value) (w : World) (h : s9_p3 K B1 (s 3) (s 5) (s 6) (s 7) (s 8) (s 9) (s 18) (s 19) (s 20) w) : Tr (s9_p3_den K (fun s w => B1 [s 3, s 18, s 19, s 20] w) s w) :=
  tr_simple (P := Tryz.prog) (codes := [(cd (Tryz.f9.body.getD .skip) [1, 1, 1, 0, 1, 0, 0, 1, 1, 0, 0, 1, 1, 1, 1, 1, 0]), (cd (Tryz.f9.body.getD .skip) [1, 1, 1, 0, 1, 0, 0, 1, 1, 0, 0, 1, 1, 1, 1, 1, 1, 0, 0]), (cd (Tryz.f9.body.getD .skip) [1, 1, 1, 0, 1, 0, 0, 1, 1, 0, 0, 1, 1, 1, 1, 1, 1, 0, 1]), (cd (Tryz.f9.body.getD .skip) [1, 1, 1, 0, 1, 0, 0, 1, 1, 0, 0, 1, 1, 1, 1, 1, 1, 1, 0]), (cd (Tryz.f9.body.getD .skip) [1, 1, 1, 0, 1, 0, 0, 1, 1, 0, 0, 1, 1, 1, 1, 1, 1, 1, 1, 0, 0]), (cd (Tryz.f9.body.getD .skip) [1, 1, 1, 0, 1, 0, 0, 1, 1, 0, 0, 1, 1, 1, 1, 1, 1, 1, 1, 0, 1]), (cd (Tryz.f9.body.getD .skip) [1, 1, 1, 0, 1, 0, 0, 1, 1, 0, 0, 1, 1, 1, 1, 1, 1, 1, 1, 1, 0]), (cd (Tryz.f9.body.getD .skip) [1, 1, 1, 0, 1, 0, 0, 1, 1, 0, 0, 1, 1, 1, 1, 1, 1, 1, 1, 1, 1])]) (N := (fun s w => s9_p2 K B1 (s 3) (s 18) (s 19) (s 20) w)) (N' := (s9_p2_den K (fun s w => B1 [s 3, s 18, s 19, s 20] w))) (X := (fun i => (bif Nat.beq i 1 then (fun s w => s9_p2 K B1 (s 3) (s 18) (s 19) (s 20) w) else (bif Nat.beq i 0 then (fun s w => s9_p1 K w) else (fun _ _ => False))))) (X' := (fun i => (bif Nat.beq i 1 then (s9_p2_den K (fun s w => B1 [s 3, s 18, s 19, s 20] w)) else (bif Nat.beq i 0 then (s9_p1_den K) else (fun _ _ => False))))) (R := s9_R K) (s := s) (w := w) (p := s9_p3 K B1 (s 3) (s 5) (s 6) (s 7) (s 8) (s 9) (s 18) (s 19) (s 20) w) (q := s9_p3_den K (fun s w => B1 [s 3, s 18, s 19, s 20] w) s w) (fun s w h => s9_p2_ok K B1 s w @h) (fun i => (tr_bif (fun s w h => s9_p2_ok K B1 s w @h) (tr_bif (fun s w h => s9_p1_ok K s w @h) tr_id))) (by kernel_rfl) (by kernel_rfl) @h
def s9_p4 (K : Value → World → Prop) (B1 : List Value → World → Prop) (B2 : List Value → World → Prop) (t3 t5 t6 t7 t8 t9 t10 t18 t19 t20 : Value) (w : World) : Prop :=
  boI .geq t10 (.int .i64 128) (fun t57 w =>
  ifb t57
  (boI .add t9 (.int .i64 1) (fun t61 w =>
  boI .quo t10 (.int .i64 128) (fun t59 w =>
  B2 [t3, t5, t6, t7, t8, t61, t59, t18, t19, t20] w) w) w)
  (s9_p3 K B1 t3 t5 t6 t7 t8 t9 t18 t19 t20 w)) w
def s9_p4_den (K : Value → World → Prop) (M1 : (Nat → Value) → World → Prop) (M2 : (Nat → Value) → World → Prop) : (Nat → Value) → World → Prop := denL Tryz.prog [(cd (Tryz.f9.body.getD .skip) [1, 1, 1, 0, 1, 0, 0, 1, 1, 0, 0, 1, 1, 1, 1, 0, 1, 0, 0, 0, 0]), (cd (Tryz.f9.body.getD .skip) [1, 1, 1, 0, 1, 0, 0, 1, 1, 0, 0, 1, 1, 1, 1, 0, 1, 0, 0, 0, 1]), (cd (Tryz.f9.body.getD .skip) [1, 1, 1, 0, 1, 0, 0, 1, 1, 0, 0, 1, 1, 1, 1, 0, 1, 0, 0, 1, 0]), (cd (Tryz.f9.body.getD .skip) [1, 1, 1, 0, 1, 0, 0, 1, 1, 0, 0, 1, 1, 1, 1, 0, 1, 0, 0, 1, 1])] M2 (fun i => (bif Nat.beq i 2 then (s9_p3_den K M1) else (bif Nat.beq i 1 then (s9_p2_den K M1) else (bif Nat.beq i 0 then (s9_p1_den K) else (fun _ _ => False))))) (s9_R K)
theorem s9_p4_ok (K : Value → World → Prop) (B1 : List Value → World → Prop) (B2 : List Value → World → Prop) (s : Nat → Value) (w : World) (h : s9_p4 K B1 B2 (s 3) (s 5) (s 6) (s 7) (s 8) (s 9) (s 10) (s 18) (s 19) (s 20) w) : Tr (s9_p4_den K (fun s w => B1 [s 3, s 18, s 19, s 20] w) (fun s w => B2 [s 3, s 5, s 6, s 7, s 8, s 9, s 10, s 18, s 19, s 20] w) s w) :=
  tr_simple (P := Tryz.prog) (codes := [(cd (Tryz.f9.body.getD .skip) [1, 1, 1, 0, 1, 0, 0, 1, 1, 0, 0, 1, 1, 1, 1, 0, 1, 0, 0, 0, 0]), (cd (Tryz.f9.body.getD .skip) [1, 1, 1, 0, 1, 0, 0, 1, 1, 0, 0, 1, 1, 1, 1, 0, 1, 0, 0, 0, 1]), (cd (Tryz.f9.body.getD .skip) [1, 1, 1, 0, 1, 0, 0, 1, 1, 0, 0, 1, 1, 1, 1, 0, 1, 0, 0, 1, 0]), (cd (Tryz.f9.body.getD .skip) [1, 1, 1, 0, 1, 0, 0, 1, 1, 0, 0, 1, 1, 1, 1, 0, 1, 0, 0, 1, 1])]) (N := (fun s w => B2 [s 3, s 5, s 6, s 7, s 8, s 9, s 10, s 18, s 19, s 20] w)) (N' := (fun s w => B2 [s 3, s 5, s 6, s 7, s 8, s 9, s 10, s 18, s 19, s 20] w)) (X := (fun i => (bif Nat.beq i 2 then (fun s w => s9_p3 K B1 (s 3) (s 5) (s 6) (s 7) (s 8) (s 9) (s 18) (s 19) (s 20) w) else (bif Nat.beq i 1 then (fun s w => s9_p2 K B1 (s 3) (s 18) (s 19) (s 20) w) else (bif Nat.beq i 0 then (fun s w => s9_p1 K w) else (fun _ _ => False)))))) (X' := (fun i => (bif Nat.beq i 2 then (s9_p3_den K (fun s w => B1 [s 3, s 18, s 19, s 20] w)) else (bif Nat.beq i 1 then (s9_p2_den K (fun s w => B1 [s 3, s 18, s 19, s 20] w)) else (bif Nat.beq i 0 then (s9_p1_den K) else (fun _ _ => False)))))) (R := s9_R K) (s := s) (w := w) (p := s9_p4 K B1 B2 (s 3) (s 5) (s 6) (s 7) (s 8) (s 9) (s 10) (s 18) (s 19) (s 20) w) (q := s9_p4_den K (fun s w => B1 [s 3, s 18, s 19, s 20] w) (fun s w => B2 [s 3, s 5, s 6, s 7, s 8, s 9, s 10, s 18, s 19, s 20] w) s w) tr_id (fun i => (tr_bif (fun s w h => s9_p3_ok K B1 s w @h) (tr_bif (fun s w h => s9_p2_ok K B1 s w @h) (tr_bif (fun s w h => s9_p1_ok K s w @h) tr_id)))) (by kernel_rfl) (by kernel_rfl) @h
def s9_p5_F (K : Value → World → Prop) (B1 : List Value → World → Prop) (B2 : List Value → World → Prop) (l : List Value) (w : World) : Prop :=
  match l with
  | [t3, t5, t6, t7, t8, t9, t10, t18, t19, t20] => s9_p4 K B1 B2 t3 t5 t6 t7 t8 t9 t10 t18 t19 t20 w
  | _ => False
theorem s9_p5_Fe {K : Value → World → Prop} {B1 : List Value → World → Prop} {B2 : List Value → World → Prop} {t3 t5 t6 t7 t8 t9 t10 t18 t19 t20 : Value} {w : World} : s9_p5_F K B1 B2 [t3, t5, t6, t7, t8, t9, t10, t18, t19, t20] w = s9_p4 K B1 B2 t3 t5 t6 t7 t8 t9 t10 t18 t19 t20 w := by kernel_rfl
def s9_p5 (K : Value → World → Prop) (B1 : List Value → World → Prop) (t3 t5 t6 t7 t8 t9 t10 t18 t19 t20 : Value) (w : World) : Prop :=
  LoopL (s9_p5_F K B1) [t3, t5, t6, t7, t8, t9, t10, t18, t19, t20] w
def s9_p5_den (K : Value → World → Prop) (M1 : (Nat → Value) → World → Prop) : (Nat → Value) → World → Prop := fun s w => LoopP (fun M2 s w => s9_p4_den K M1 M2 s w) s w
theorem s9_p5_ok (K : Value → World → Prop) (B1 : List Value → World → Prop) (s : Nat → Value) (w : World) (h : s9_p5 K B1 (s 3) (s 5) (s 6) (s 7) (s 8) (s 9) (s 10) (s 18) (s 19) (s 20) w) : Tr (s9_p5_den K (fun s w => B1 [s 3, s 18, s 19, s 20] w) s w) :=
  tr_loop (G := fun N' s w => s9_p4_den K (fun s w => B1 [s 3, s 18, s 19, s 20] w) N' s w) (F := s9_p5_F K B1) (sel := fun s => [s 3, s 5, s 6, s 7, s 8, s 9, s 10, s 18, s 19, s 20]) (s := s) (w := w) (p := s9_p5 K B1 (s 3) (s 5) (s 6) (s 7) (s 8) (s 9) (s 10) (s 18) (s 19) (s 20) w) (q := s9_p5_den K (fun s w => B1 [s 3, s 18, s 19, s 20] w) s w) (fun B s w h => s9_p4_ok K B1 B s w @h) (by kernel_rfl) (by kernel_rfl) @h
def s9_p6 (K : Value → World → Prop) (B1 : List Value → World → Prop) (t3 t5 t6 t7 t8 t18 t19 t20 : Value) (w : World) : Prop :=
  fd 1 t5 (fun t46 w =>
  ld1 t46 (fun t47 w =>
  lnS t47 (fun t48 w =>
  boI .add t48 (.int .i64 1) (fun t49 w =>
  nck t3 (fun t51 w =>
  fd 1 t51 (fun t52 w =>
  ld1 t52 (fun t53 w =>
  cl Tryz.prog 50 #[t53] (fun t54 w =>
  boI .add t54 (.int .i64 1) (fun t55 w =>
  s9_p5 K B1 t3 t5 t6 t7 t8 t49 t55 t18 t19 t20 w) w) w) w) w) w) w) w) w) w
def s9_p6_den (K : Value → World → Prop) (M1 : (Nat → Value) → World → Prop) : (Nat → Value) → World → Prop := denL Tryz.prog [(cd (Tryz.f9.body.getD .skip) [1, 1, 1, 0, 1, 0, 0, 1, 1, 0, 0, 1, 1, 1, 0]), (cd (Tryz.f9.body.getD .skip) [1, 1, 1, 0, 1, 0, 0, 1, 1, 0, 0, 1, 1, 1, 1, 0, 0])] (s9_p5_den K M1) (fun i => (bif Nat.beq i 1 then (s9_p2_den K M1) else (bif Nat.beq i 0 then (s9_p1_den K) else (fun _ _ => False)))) (s9_R K)
theorem s9_p6_ok (K : Value → World → Prop) (B1 : List Value → World → Prop) (s : Nat → Value) (w : World) (h : s9_p6 K B1 (s 3) (s 5) (s 6) (s 7) (s 8) (s 18) (s 19) (s 20) w) : Tr (s9_p6_den K (fun s w => B1 [s 3, s 18, s 19, s 20] w) s w) :=
  tr_simple (P := Tryz.prog) (codes := [(cd (Tryz.f9.body.getD .skip) [1, 1, 1, 0, 1, 0, 0, 1, 1, 0, 0, 1, 1, 1, 0]), (cd (Tryz.f9.body.getD .skip) [1, 1, 1, 0, 1, 0, 0, 1, 1, 0, 0, 1, 1, 1, 1, 0, 0])]) (N := (fun s w => s9_p5 K B1 (s 3) (s 5) (s 6) (s 7) (s 8) (s 9) (s 10) (s 18) (s 19) (s 20) w)) (N' := (s9_p5_den K (fun s w => B1 [s 3, s 18, s 19, s 20] w))) (X := (fun i => (bif Nat.beq i 1 then (fun s w => s9_p2 K B1 (s 3) (s 18) (s 19) (s 20) w) else (bif Nat.beq i 0 then (fun s w => s9_p1 K w) else (fun _ _ => False))))) (X' := (fun i => (bif Nat.beq i 1 then (s9_p2_den K (fun s w => B1 [s 3, s 18, s 19, s 20] w)) else (bif Nat.beq i 0 then (s9_p1_den K) else (fun _ _ => False))))) (R := s9_R K) (s := s) (w := w) (p := s9_p6 K B1 (s 3) (s 5) (s 6) (s 7) (s 8) (s 18) (s 19) (s 20) w) (q := s9_p6_den K (fun s w => B1 [s 3, s 18, s 19, s 20] w) s w) (fun s w h => s9_p5_ok K B1 s w @h) (fun i => (tr_bif (fun s w h => s9_p2_ok K B1 s w @h) (tr_bif (fun s w h => s9_p1_ok K s w @h) tr_id))) (by kernel_rfl) (by kernel_rfl) @h
def s9_p7_d (K : Value → World → Prop) (B1 : List Value → World → Prop) (t3 t5 t18 t19 t20 : Value) (w0 w : World) : Prop :=
  nck t3 (fun t28 _ =>
  fd 0 t28 (fun t29 _ =>
  ld1 t29 (fun t30 _ =>
  nck t30 (fun t31 _ =>
  fd 5 t31 (fun t32 _ =>
  ld1 t32 (fun t33 _ =>
  lnS t33 (fun t34 _ =>
  nck t3 (fun t36 _ =>
  fd 0 t36 (fun t37 _ =>
  ld1 t37 (fun t38 _ =>
  nck t3 (fun t41 _ =>
  fd 1 t41 (fun t42 _ =>
  ld1 t42 (fun t43 _ =>
  cl Tryz.prog 48 #[t38] (fun t39 w =>
  Below w0.heap.size w0 w ∧
  (cl Tryz.prog 49 #[t43] (fun t44 w =>
  Below w0.heap.size w0 w ∧
  (fi Tryz.prog 102 t44 3 (fun t45 w =>
  Below w0.heap.size w0 w ∧
  s9_p6 K B1 t3 t5 t34 t39 t45 t18 t19 t20 w) w) ∧
  (fi Tryz.prog 102 t44 3 (fun t45_2 w =>
  Below w0.heap.size w0 w ∧
  s9_p6 K B1 t3 t5 t34 t39 t45_2 t18 t19 t20 w) w)) w) ∧
  (cl Tryz.prog 49 #[t43] (fun t44_2 w =>
  Below w0.heap.size w0 w ∧
  fi Tryz.prog 102 t44_2 3 (fun t45_3 w =>
  Below w0.heap.size w0 w ∧
  s9_p6 K B1 t3 t5 t34 t39 t45_3 t18 t19 t20 w) w) w)) w) w0) w0) w0) w0) w0) w0) w0) w0) w0) w0) w0) w0) w0
def s9_p7 (K : Value → World → Prop) (B1 : List Value → World → Prop) (t3 t5 t18 t19 t20 : Value) (w : World) : Prop := s9_p7_d K B1 t3 t5 t18 t19 t20 (drw w) (drw w)
def s9_p7_den (K : Value → World → Prop) (M1 : (Nat → Value) → World → Prop) : (Nat → Value) → World → Prop := denL Tryz.prog [(cd (Tryz.f9.body.getD .skip) [1, 1, 1, 0, 1, 0, 0, 1, 1, 0, 0, 1, 1, 0])] (s9_p6_den K M1) (fun i => (bif Nat.beq i 1 then (s9_p2_den K M1) else (bif Nat.beq i 0 then (s9_p1_den K) else (fun _ _ => False)))) (s9_R K)
theorem s9_p7_ok (K : Value → World → Prop) (B1 : List Value → World → Prop) (s : Nat → Value) (w : World) (h : s9_p7 K B1 (s 3) (s 5) (s 18) (s 19) (s 20) w) : Tr (s9_p7_den K (fun s w => B1 [s 3, s 18, s 19, s 20] w) s w) :=
  tr_draw (P := Tryz.prog) (ops := (ro (cd (Tryz.f9.body.getD .skip) [1, 1, 1, 0, 1, 0, 0, 1, 1, 0, 0, 1, 1, 0]))) (ms := [0, 1, 3, 7, 15, 31, 63, 127, 0, 256, 768, 1792, 3840, 0, 8192, 24576, 57344, 130816, 261888, 262143, 786431, 2097151]) (cs := [0, 1, 2, 3, 4, 5, 6, 7, 8, 9, 10, 11, 13, 14, 15, 16, 19]) (N := (fun s w => s9_p6 K B1 (s 3) (s 5) (s 6) (s 7) (s 8) (s 18) (s 19) (s 20) w)) (N' := (s9_p6_den K (fun s w => B1 [s 3, s 18, s 19, s 20] w))) (s := s) (w := w) (p := s9_p7 K B1 (s 3) (s 5) (s 18) (s 19) (s 20) w) (q := s9_p7_den K (fun s w => B1 [s 3, s 18, s 19, s 20] w) s w) (by kernel_rfl) (by kernel_rfl) (fun s w h => s9_p6_ok K B1 s w @h) (by kernel_rfl) (by kernel_rfl) @h
def s9_p8 (K : Value → World → Prop) (B1 : List Value → World → Prop) (t3 t18 t19 t20 : Value) (w : World) : Prop :=
  ixs 4 t18 t20 (fun t22 w =>
  ldn 4 t22 (fun t23 w =>
  nw 39 #[(.int .i64 0), (.slice none 0 0), (.int .i64 0), (.int .i64 0)] (fun t5 w =>
  stn 4 t5 t23 (fun w =>
  ldn 4 t5 (fun t24 w =>
  cl Tryz.prog 22 #[t24] (fun t25 w =>
  un .not t25 (fun t26 w =>
  ifb t26
  (s9_p2 K B1 t3 t18 t19 t20 w)
  (s9_p7 K B1 t3 t5 t18 t19 t20 w)) w) w) w) w) w) w) w
def s9_p8_den (K : Value → World → Prop) (M1 : (Nat → Value) → World → Prop) : (Nat → Value) → World → Prop := denL Tryz.prog [(cd (Tryz.f9.body.getD .skip) [1, 1, 1, 0, 1, 0, 0, 1, 1, 0, 0, 0]), (cd (Tryz.f9.body.getD .skip) [1, 1, 1, 0, 1, 0, 0, 1, 1, 0, 0, 1, 0, 0]), (cd (Tryz.f9.body.getD .skip) [1, 1, 1, 0, 1, 0, 0, 1, 1, 0, 0, 1, 0, 1])] (s9_p7_den K M1) (fun i => (bif Nat.beq i 1 then (s9_p2_den K M1) else (bif Nat.beq i 0 then (s9_p1_den K) else (fun _ _ => False)))) (s9_R K)
theorem s9_p8_ok (K : Value → World → Prop) (B1 : List Value → World → Prop) (s : Nat → Value) (w : World) (h : s9_p8 K B1 (s 3) (s 18) (s 19) (s 20) w) : Tr (s9_p8_den K (fun s w => B1 [s 3, s 18, s 19, s 20] w) s w) :=
  tr_simple (P := Tryz.prog) (codes := [(cd (Tryz.f9.body.getD .skip) [1, 1, 1, 0, 1, 0, 0, 1, 1, 0, 0, 0]), (cd (Tryz.f9.body.getD .skip) [1, 1, 1, 0, 1, 0, 0, 1, 1, 0, 0, 1, 0, 0]), (cd (Tryz.f9.body.getD .skip) [1, 1, 1, 0, 1, 0, 0, 1, 1, 0, 0, 1, 0, 1])]) (N := (fun s w => s9_p7 K B1 (s 3) (s 5) (s 18) (s 19) (s 20) w)) (N' := (s9_p7_den K (fun s w => B1 [s 3, s 18, s 19, s 20] w))) (X := (fun i => (bif Nat.beq i 1 then (fun s w => s9_p2 K B1 (s 3) (s 18) (s 19) (s 20) w) else (bif Nat.beq i 0 then (fun s w => s9_p1 K w) else (fun _ _ => False))))) (X' := (fun i => (bif Nat.beq i 1 then (s9_p2_den K (fun s w => B1 [s 3, s 18, s 19, s 20] w)) else (bif Nat.beq i 0 then (s9_p1_den K) else (fun _ _ => False))))) (R := s9_R K) (s := s) (w := w) (p := s9_p8 K B1 (s 3) (s 18) (s 19) (s 20) w) (q := s9_p8_den K (fun s w => B1 [s 3, s 18, s 19, s 20] w) s w) (fun s w h => s9_p7_ok K B1 s w @h) (fun i => (tr_bif (fun s w h => s9_p2_ok K B1 s w @h) (tr_bif (fun s w h => s9_p1_ok K s w @h) tr_id))) (by kernel_rfl) (by kernel_rfl) @h
def s9_p9 (K : Value → World → Prop) (B1 : List Value → World → Prop) (t3 t18 t19 t20 : Value) (w : World) : Prop :=
  boI .lss t20 t19 (fun t21 w =>
  ifb t21
  (s9_p8 K B1 t3 t18 t19 t20 w)
  (s9_p1 K w)) w
def s9_p9_den (K : Value → World → Prop) (M1 : (Nat → Value) → World → Prop) : (Nat → Value) → World → Prop := denL Tryz.prog [(cd (Tryz.f9.body.getD .skip) [1, 1, 1, 0, 1, 0, 0, 0]), (cd (Tryz.f9.body.getD .skip) [1, 1, 1, 0, 1, 0, 0, 1, 0])] (s9_p8_den K M1) (fun i => (bif Nat.beq i 0 then (s9_p1_den K) else (fun _ _ => False))) (s9_R K)
theorem s9_p9_ok (K : Value → World → Prop) (B1 : List Value → World → Prop) (s : Nat → Value) (w : World) (h : s9_p9 K B1 (s 3) (s 18) (s 19) (s 20) w) : Tr (s9_p9_den K (fun s w => B1 [s 3, s 18, s 19, s 20] w) s w) :=
  tr_simple (P := Tryz.prog) (codes := [(cd (Tryz.f9.body.getD .skip) [1, 1, 1, 0, 1, 0, 0, 0]), (cd (Tryz.f9.body.getD .skip) [1, 1, 1, 0, 1, 0, 0, 1, 0])]) (N := (fun s w => s9_p8 K B1 (s 3) (s 18) (s 19) (s 20) w)) (N' := (s9_p8_den K (fun s w => B1 [s 3, s 18, s 19, s 20] w))) (X := (fun i => (bif Nat.beq i 0 then (fun s w => s9_p1 K w) else (fun _ _ => False)))) (X' := (fun i => (bif Nat.beq i 0 then (s9_p1_den K) else (fun _ _ => False)))) (R := s9_R K) (s := s) (w := w) (p := s9_p9 K B1 (s 3) (s 18) (s 19) (s 20) w) (q := s9_p9_den K (fun s w => B1 [s 3, s 18, s 19, s 20] w) s w) (fun s w h => s9_p8_ok K B1 s w @h) (fun i => (tr_bif (fun s w h => s9_p1_ok K s w @h) tr_id)) (by kernel_rfl) (by kernel_rfl) @h
def s9_p10_F (K : Value → World → Prop) (B1 : List Value → World → Prop) (l : List Value) (w : World) : Prop :=
  match l with
  | [t3, t18, t19, t20] => s9_p9 K B1 t3 t18 t19 t20 w
  | _ => False
theorem s9_p10_Fe {K : Value → World → Prop} {B1 : List Value → World → Prop} {t3 t18 t19 t20 : Value} {w : World} : s9_p10_F K B1 [t3, t18, t19, t20] w = s9_p9 K B1 t3 t18 t19 t20 w := by kernel_rfl
def s9_p10 (K : Value → World → Prop) (t3 t18 t19 t20 : Value) (w : World) : Prop :=
  LoopL (s9_p10_F K) [t3, t18, t19, t20] w
def s9_p10_den (K : Value → World → Prop) : (Nat → Value) → World → Prop := fun s w => LoopP (fun M1 s w => s9_p9_den K M1 s w) s w
theorem s9_p10_ok (K : Value → World → Prop) (s : Nat → Value) (w : World) (h : s9_p10 K (s 3) (s 18) (s 19) (s 20) w) : Tr (s9_p10_den K s w) :=
  tr_loop (G := fun N' s w => s9_p9_den K N' s w) (F := s9_p10_F K) (sel := fun s => [s 3, s 18, s 19, s 20]) (s := s) (w := w) (p := s9_p10 K (s 3) (s 18) (s 19) (s 20) w) (q := s9_p10_den K s w) (fun B s w h => s9_p9_ok K B s w @h) (by kernel_rfl) (by kernel_rfl) @h
def s9_p11 (K : Value → World → Prop) (t0 : Value) (w : World) : Prop :=
  cl Tryz.prog 17 #[t0] (fun t14 w =>
  un .not t14 (fun t15 w =>
  ifb t15
  (K (.bool true) w)
  (cl Tryz.prog 19 #[] (fun t16 w =>
  cl Tryz.prog 18 #[t16] (fun t17 w =>
  lnS t0 (fun t19 w =>
  s9_p10 K t17 t0 t19 (.int .i64 0) w) w) w) w)) w) w
def s9_p11_den (K : Value → World → Prop) : (Nat → Value) → World → Prop := denL Tryz.prog [(cd (Tryz.f9.body.getD .skip) [0]), (cd (Tryz.f9.body.getD .skip) [1, 0, 0]), (cd (Tryz.f9.body.getD .skip) [1, 0, 1]), (cd (Tryz.f9.body.getD .skip) [1, 1, 0]), (cd (Tryz.f9.body.getD .skip) [1, 1, 1, 0, 0])] (s9_p10_den K) (fun i => (fun _ _ => False)) (s9_R K)
theorem s9_p11_ok (K : Value → World → Prop) (s : Nat → Value) (w : World) (h : s9_p11 K (s 0) w) : Tr (s9_p11_den K s w) :=
  tr_simple (P := Tryz.prog) (codes := [(cd (Tryz.f9.body.getD .skip) [0]), (cd (Tryz.f9.body.getD .skip) [1, 0, 0]), (cd (Tryz.f9.body.getD .skip) [1, 0, 1]), (cd (Tryz.f9.body.getD .skip) [1, 1, 0]), (cd (Tryz.f9.body.getD .skip) [1, 1, 1, 0, 0])]) (N := (fun s w => s9_p10 K (s 3) (s 18) (s 19) (s 20) w)) (N' := (s9_p10_den K)) (X := (fun i => (fun _ _ => False))) (X' := (fun i => (fun _ _ => False))) (R := s9_R K) (s := s) (w := w) (p := s9_p11 K (s 0) w) (q := s9_p11_den K s w) (fun s w h => s9_p10_ok K s w @h) (fun i => tr_id) (by kernel_rfl) (by kernel_rfl) @h
/-- the call, from the text -/
theorem c9 (t0 : Value) {K : Value → World → Prop} {w : World} (h : s9_p11 K t0 w) : cl Tryz.prog 9 #[t0] K w :=
  calls_of_tr (c := (Tryz.f9.body.getD .skip)) (fn := Tryz.f9) (q := s9_p11_den K (st0 #[t0]) w) Tryz.func9 (by kernel_rfl) (by kernel_rfl) (Nat.le_of_ble_eq_true (by kernel_rfl)) (by kernel_rfl) (by kernel_rfl) (s9_p11_ok K (st0 #[t0]) w @h)

end Go.Proofs.Qxb6500896aGreat
