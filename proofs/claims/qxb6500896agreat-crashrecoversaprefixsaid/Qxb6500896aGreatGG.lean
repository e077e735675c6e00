import Derived.Test.Qxb6500896aGreatProg
import Derived.Test.Qxb6500896aGreatShMix3
namespace Go.Proofs.Qxb6500896aGreat
open Go.Sh Go.RowKit
set_option linter.unusedVariables false
set_option maxRecDepth 100000

/-! ### function 6 : e2e.enginelaw.CrashRecoversAPrefix -/
def s6_R (K : Value → World → Prop) (s : Nat → Value) (w : World) : Prop := retv Tryz.prog s Tryz.f6.results.toList (fun vs => K (pack vs) w) w
def s6_p1 (K : Value → World → Prop) (w : World) : Prop :=
  K (.bool true) w
def s6_p1_den (K : Value → World → Prop) : (Nat → Value) → World → Prop := denL Tryz.prog [(cd (Tryz.f6.body.getD .skip) [1, 1, 1, 1, 1, 0]), (cd (Tryz.f6.body.getD .skip) [1, 1, 1, 1, 1, 1])] (fun _ _ => False) (fun i => (fun _ _ => False)) (s6_R K)
theorem s6_p1_ok (K : Value → World → Prop) (s : Nat → Value) (w : World) (h : s6_p1 K w) : Tr (s6_p1_den K s w) :=
  tr_simple (P := Tryz.prog) (codes := [(cd (Tryz.f6.body.getD .skip) [1, 1, 1, 1, 1, 0]), (cd (Tryz.f6.body.getD .skip) [1, 1, 1, 1, 1, 1])]) (N := (fun _ _ => False)) (N' := (fun _ _ => False)) (X := (fun i => (fun _ _ => False))) (X' := (fun i => (fun _ _ => False))) (R := s6_R K) (s := s) (w := w) (p := s6_p1 K w) (q := s6_p1_den K s w) tr_id (fun i => tr_id) (by kernel_rfl) (by kernel_rfl) @h
def s6_p2 (K : Value → World → Prop) (B1 : List Value → World → Prop) (t3 t4 t5 t6 t25 t26 t27 : Value) (w : World) : Prop :=
  boI .add t27 (.int .i64 1) (fun t169 w =>
  B1 [t3, t4, t5, t6, t25, t26, t169] w) w
def s6_p2_den (K : Value → World → Prop) (M1 : (Nat → Value) → World → Prop) : (Nat → Value) → World → Prop := denL Tryz.prog [(cd (Tryz.f6.body.getD .skip) [1, 1, 1, 1, 0, 1, 0, 0, 1, 1, 1])] M1 (fun i => (bif Nat.beq i 0 then (s6_p1_den K) else (fun _ _ => False))) (s6_R K)
theorem s6_p2_ok (K : Value → World → Prop) (B1 : List Value → World → Prop) (s : Nat → Value) (w : World) (h : s6_p2 K B1 (s 3) (s 4) (s 5) (s 6) (s 25) (s 26) (s 27) w) : Tr (s6_p2_den K (fun s w => B1 [s 3, s 4, s 5, s 6, s 25, s 26, s 27] w) s w) :=
  tr_simple (P := Tryz.prog) (codes := [(cd (Tryz.f6.body.getD .skip) [1, 1, 1, 1, 0, 1, 0, 0, 1, 1, 1])]) (N := (fun s w => B1 [s 3, s 4, s 5, s 6, s 25, s 26, s 27] w)) (N' := (fun s w => B1 [s 3, s 4, s 5, s 6, s 25, s 26, s 27] w)) (X := (fun i => (bif Nat.beq i 0 then (fun s w => s6_p1 K w) else (fun _ _ => False)))) (X' := (fun i => (bif Nat.beq i 0 then (s6_p1_den K) else (fun _ _ => False)))) (R := s6_R K) (s := s) (w := w) (p := s6_p2 K B1 (s 3) (s 4) (s 5) (s 6) (s 25) (s 26) (s 27) w) (q := s6_p2_den K (fun s w => B1 [s 3, s 4, s 5, s 6, s 25, s 26, s 27] w) s w) tr_id (fun i => (tr_bif (fun s w h => s6_p1_ok K s w @h) tr_id)) (by kernel_rfl) (by kernel_rfl) @h
def s6_p3 (K : Value → World → Prop) (B1 : List Value → World → Prop) (t3 t4 t5 t6 t8 t25 t26 t27 : Value) (w : World) : Prop :=
  fd 1 t8 (fun t36 w =>
  ld1 t36 (fun t37 w =>
  bsq 37 [(.slice none 0 0)] 1 [(some (0, 1), t37)] (fun t38 w =>
  apq 37 [(.slice none 0 0)] 24 t5 t38 (fun t39 w =>
  s6_p2 K B1 t3 t4 t39 t6 t25 t26 t27 w) w) w) w) w
def s6_p3_den (K : Value → World → Prop) (M1 : (Nat → Value) → World → Prop) : (Nat → Value) → World → Prop := denL Tryz.prog [(cd (Tryz.f6.body.getD .skip) [1, 1, 1, 1, 0, 1, 0, 0, 1, 1, 0, 0, 1, 1, 0, 1, 0])] (s6_p2_den K M1) (fun i => (bif Nat.beq i 2 then (s6_p2_den K M1) else (bif Nat.beq i 1 then (s6_p2_den K M1) else (bif Nat.beq i 0 then (s6_p1_den K) else (fun _ _ => False))))) (s6_R K)
theorem s6_p3_ok (K : Value → World → Prop) (B1 : List Value → World → Prop) (s : Nat → Value) (w : World) (h : s6_p3 K B1 (s 3) (s 4) (s 5) (s 6) (s 8) (s 25) (s 26) (s 27) w) : Tr (s6_p3_den K (fun s w => B1 [s 3, s 4, s 5, s 6, s 25, s 26, s 27] w) s w) :=
  tr_simple (P := Tryz.prog) (codes := [(cd (Tryz.f6.body.getD .skip) [1, 1, 1, 1, 0, 1, 0, 0, 1, 1, 0, 0, 1, 1, 0, 1, 0])]) (N := (fun s w => s6_p2 K B1 (s 3) (s 4) (s 5) (s 6) (s 25) (s 26) (s 27) w)) (N' := (s6_p2_den K (fun s w => B1 [s 3, s 4, s 5, s 6, s 25, s 26, s 27] w))) (X := (fun i => (bif Nat.beq i 2 then (fun s w => s6_p2 K B1 (s 3) (s 4) (s 5) (s 6) (s 25) (s 26) (s 27) w) else (bif Nat.beq i 1 then (fun s w => s6_p2 K B1 (s 3) (s 4) (s 5) (s 6) (s 25) (s 26) (s 27) w) else (bif Nat.beq i 0 then (fun s w => s6_p1 K w) else (fun _ _ => False)))))) (X' := (fun i => (bif Nat.beq i 2 then (s6_p2_den K (fun s w => B1 [s 3, s 4, s 5, s 6, s 25, s 26, s 27] w)) else (bif Nat.beq i 1 then (s6_p2_den K (fun s w => B1 [s 3, s 4, s 5, s 6, s 25, s 26, s 27] w)) else (bif Nat.beq i 0 then (s6_p1_den K) else (fun _ _ => False)))))) (R := s6_R K) (s := s) (w := w) (p := s6_p3 K B1 (s 3) (s 4) (s 5) (s 6) (s 8) (s 25) (s 26) (s 27) w) (q := s6_p3_den K (fun s w => B1 [s 3, s 4, s 5, s 6, s 25, s 26, s 27] w) s w) (fun s w h => s6_p2_ok K B1 s w @h) (fun i => (tr_bif (fun s w h => s6_p2_ok K B1 s w @h) (tr_bif (fun s w h => s6_p2_ok K B1 s w @h) (tr_bif (fun s w h => s6_p1_ok K s w @h) tr_id)))) (by kernel_rfl) (by kernel_rfl) @h
def s6_p4 (K : Value → World → Prop) (B1 : List Value → World → Prop) (B2 : List Value → World → Prop) (t3 t4 t5 t6 t9 t25 t26 t27 t74 t75 t76 : Value) (w : World) : Prop :=
  boI .lss t76 t75 (fun t77 w =>
  ifb t77
  (ixs 1 t74 t76 (fun t79 w =>
  ld1 t79 (fun t80 w =>
  cl Tryz.prog 34 #[t3] (fun t82 w =>
  un .not t82 (fun t83 w =>
  gd t83 true (fun K w => K t80 w) (fun t85 w =>
  gd t83 true (cl Tryz.prog 29 #[t85]) (fun t86 w =>
  gd t83 true (boI .neq t86 (.int .i64 19)) (fun t87 w =>
  gd t83 true (fun K w => K t87 w) (fun t88 w =>
  gd t88 false (fun K w => K t80 w) (fun t89 w =>
  gd t88 false (lnS t89) (fun t90 w =>
  gd t88 false (boI .neq t90 (.int .i64 1)) (fun t91 w =>
  gd t83 true (pk t88 (.bool true) t91) (fun t92 w =>
  pk t83 t92 (.bool false) (fun t93 w =>
  ifb t93
  (K (.bool false) w)
  (cl Tryz.prog 34 #[t3] (fun t95 w =>
  gd t95 true (fun K w => K t80 w) (fun t97 w =>
  gd t95 true (fun K w => K t4 w) (fun t98 w =>
  gd t95 true (fun K w => K t9 w) (fun t99 w =>
  gd t95 true (fun K w => K t76 w) (fun t100 w =>
  gd t95 true (ixs 1 t99 t100) (fun t101 w =>
  gd t95 true (ld1 t101) (fun t102 w =>
  gd t95 true (cl Tryz.prog 25 #[t98, t102]) (fun t103 w =>
  gd t95 true (cl Tryz.prog 23 #[t97, t103]) (fun t104 w =>
  gd t95 true (un .not t104) (fun t105 w =>
  pk t95 t105 (.bool false) (fun t106 w =>
  ifb t106
  (K (.bool false) w)
  (boI .add t76 (.int .i64 1) (fun t107 w =>
  B2 [t3, t4, t5, t6, t9, t25, t26, t27, t74, t75, t107] w) w)) w) w) w) w) w) w) w) w) w) w) w)) w) w) w) w) w) w) w) w) w) w) w) w) w)
  (s6_p2 K B1 t3 t4 t5 t6 t25 t26 t27 w)) w
def s6_p4_den (K : Value → World → Prop) (M1 : (Nat → Value) → World → Prop) (M2 : (Nat → Value) → World → Prop) : (Nat → Value) → World → Prop := denL Tryz.prog [(cd (Tryz.f6.body.getD .skip) [1, 1, 1, 1, 0, 1, 0, 0, 1, 1, 0, 0, 1, 1, 0, 1, 1, 1, 0, 1, 1, 1, 1, 1, 1, 1, 1, 0, 0, 0]), (cd (Tryz.f6.body.getD .skip) [1, 1, 1, 1, 0, 1, 0, 0, 1, 1, 0, 0, 1, 1, 0, 1, 1, 1, 0, 1, 1, 1, 1, 1, 1, 1, 1, 0, 0, 1, 0]), (cd (Tryz.f6.body.getD .skip) [1, 1, 1, 1, 0, 1, 0, 0, 1, 1, 0, 0, 1, 1, 0, 1, 1, 1, 0, 1, 1, 1, 1, 1, 1, 1, 1, 0, 0, 1, 1, 0]), (cd (Tryz.f6.body.getD .skip) [1, 1, 1, 1, 0, 1, 0, 0, 1, 1, 0, 0, 1, 1, 0, 1, 1, 1, 0, 1, 1, 1, 1, 1, 1, 1, 1, 0, 0, 1, 1, 1])] M2 (fun i => (bif Nat.beq i 3 then (s6_p2_den K M1) else (bif Nat.beq i 2 then (s6_p2_den K M1) else (bif Nat.beq i 1 then (s6_p2_den K M1) else (bif Nat.beq i 0 then (s6_p1_den K) else (fun _ _ => False)))))) (s6_R K)
theorem s6_p4_ok (K : Value → World → Prop) (B1 : List Value → World → Prop) (B2 : List Value → World → Prop) (s : Nat → Value) (w : World) (h : s6_p4 K B1 B2 (s 3) (s 4) (s 5) (s 6) (s 9) (s 25) (s 26) (s 27) (s 74) (s 75) (s 76) w) : Tr (s6_p4_den K (fun s w => B1 [s 3, s 4, s 5, s 6, s 25, s 26, s 27] w) (fun s w => B2 [s 3, s 4, s 5, s 6, s 9, s 25, s 26, s 27, s 74, s 75, s 76] w) s w) :=
  tr_simple (P := Tryz.prog) (codes := [(cd (Tryz.f6.body.getD .skip) [1, 1, 1, 1, 0, 1, 0, 0, 1, 1, 0, 0, 1, 1, 0, 1, 1, 1, 0, 1, 1, 1, 1, 1, 1, 1, 1, 0, 0, 0]), (cd (Tryz.f6.body.getD .skip) [1, 1, 1, 1, 0, 1, 0, 0, 1, 1, 0, 0, 1, 1, 0, 1, 1, 1, 0, 1, 1, 1, 1, 1, 1, 1, 1, 0, 0, 1, 0]), (cd (Tryz.f6.body.getD .skip) [1, 1, 1, 1, 0, 1, 0, 0, 1, 1, 0, 0, 1, 1, 0, 1, 1, 1, 0, 1, 1, 1, 1, 1, 1, 1, 1, 0, 0, 1, 1, 0]), (cd (Tryz.f6.body.getD .skip) [1, 1, 1, 1, 0, 1, 0, 0, 1, 1, 0, 0, 1, 1, 0, 1, 1, 1, 0, 1, 1, 1, 1, 1, 1, 1, 1, 0, 0, 1, 1, 1])]) (N := (fun s w => B2 [s 3, s 4, s 5, s 6, s 9, s 25, s 26, s 27, s 74, s 75, s 76] w)) (N' := (fun s w => B2 [s 3, s 4, s 5, s 6, s 9, s 25, s 26, s 27, s 74, s 75, s 76] w)) (X := (fun i => (bif Nat.beq i 3 then (fun s w => s6_p2 K B1 (s 3) (s 4) (s 5) (s 6) (s 25) (s 26) (s 27) w) else (bif Nat.beq i 2 then (fun s w => s6_p2 K B1 (s 3) (s 4) (s 5) (s 6) (s 25) (s 26) (s 27) w) else (bif Nat.beq i 1 then (fun s w => s6_p2 K B1 (s 3) (s 4) (s 5) (s 6) (s 25) (s 26) (s 27) w) else (bif Nat.beq i 0 then (fun s w => s6_p1 K w) else (fun _ _ => False))))))) (X' := (fun i => (bif Nat.beq i 3 then (s6_p2_den K (fun s w => B1 [s 3, s 4, s 5, s 6, s 25, s 26, s 27] w)) else (bif Nat.beq i 2 then (s6_p2_den K (fun s w => B1 [s 3, s 4, s 5, s 6, s 25, s 26, s 27] w)) else (bif Nat.beq i 1 then (s6_p2_den K (fun s w => B1 [s 3, s 4, s 5, s 6, s 25, s 26, s 27] w)) else (bif Nat.beq i 0 then (s6_p1_den K) else (fun _ _ => False))))))) (R := s6_R K) (s := s) (w := w) (p := s6_p4 K B1 B2 (s 3) (s 4) (s 5) (s 6) (s 9) (s 25) (s 26) (s 27) (s 74) (s 75) (s 76) w) (q := s6_p4_den K (fun s w => B1 [s 3, s 4, s 5, s 6, s 25, s 26, s 27] w) (fun s w => B2 [s 3, s 4, s 5, s 6, s 9, s 25, s 26, s 27, s 74, s 75, s 76] w) s w) tr_id (fun i => (tr_bif (fun s w h => s6_p2_ok K B1 s w @h) (tr_bif (fun s w h => s6_p2_ok K B1 s w @h) (tr_bif (fun s w h => s6_p2_ok K B1 s w @h) (tr_bif (fun s w h => s6_p1_ok K s w @h) tr_id))))) (by kernel_rfl) (by kernel_rfl) @h
def s6_p5_F (K : Value → World → Prop) (B1 : List Value → World → Prop) (B2 : List Value → World → Prop) (l : List Value) (w : World) : Prop :=
  match l with
  | [t3, t4, t5, t6, t9, t25, t26, t27, t74, t75, t76] => s6_p4 K B1 B2 t3 t4 t5 t6 t9 t25 t26 t27 t74 t75 t76 w
  | _ => False
theorem s6_p5_Fe {K : Value → World → Prop} {B1 : List Value → World → Prop} {B2 : List Value → World → Prop} {t3 t4 t5 t6 t9 t25 t26 t27 t74 t75 t76 : Value} {w : World} : s6_p5_F K B1 B2 [t3, t4, t5, t6, t9, t25, t26, t27, t74, t75, t76] w = s6_p4 K B1 B2 t3 t4 t5 t6 t9 t25 t26 t27 t74 t75 t76 w := by kernel_rfl
def s6_p5 (K : Value → World → Prop) (B1 : List Value → World → Prop) (t3 t4 t5 t6 t9 t25 t26 t27 t74 t75 t76 : Value) (w : World) : Prop :=
  LoopL (s6_p5_F K B1) [t3, t4, t5, t6, t9, t25, t26, t27, t74, t75, t76] w
def s6_p5_den (K : Value → World → Prop) (M1 : (Nat → Value) → World → Prop) : (Nat → Value) → World → Prop := fun s w => LoopP (fun M2 s w => s6_p4_den K M1 M2 s w) s w
theorem s6_p5_ok (K : Value → World → Prop) (B1 : List Value → World → Prop) (s : Nat → Value) (w : World) (h : s6_p5 K B1 (s 3) (s 4) (s 5) (s 6) (s 9) (s 25) (s 26) (s 27) (s 74) (s 75) (s 76) w) : Tr (s6_p5_den K (fun s w => B1 [s 3, s 4, s 5, s 6, s 25, s 26, s 27] w) s w) :=
  tr_loop (G := fun N' s w => s6_p4_den K (fun s w => B1 [s 3, s 4, s 5, s 6, s 25, s 26, s 27] w) N' s w) (F := s6_p5_F K B1) (sel := fun s => [s 3, s 4, s 5, s 6, s 9, s 25, s 26, s 27, s 74, s 75, s 76]) (s := s) (w := w) (p := s6_p5 K B1 (s 3) (s 4) (s 5) (s 6) (s 9) (s 25) (s 26) (s 27) (s 74) (s 75) (s 76) w) (q := s6_p5_den K (fun s w => B1 [s 3, s 4, s 5, s 6, s 25, s 26, s 27] w) s w) (fun B s w h => s6_p4_ok K B1 B s w @h) (by kernel_rfl) (by kernel_rfl) @h
def s6_p6 (K : Value → World → Prop) (B1 : List Value → World → Prop) (t3 t4 t5 t6 t9 t11 t25 t26 t27 : Value) (w : World) : Prop :=
  lnS t11 (fun t75 w =>
  s6_p5 K B1 t3 t4 t5 t6 t9 t25 t26 t27 t11 t75 (.int .i64 0) w) w
def s6_p6_den (K : Value → World → Prop) (M1 : (Nat → Value) → World → Prop) : (Nat → Value) → World → Prop := denL Tryz.prog [(cd (Tryz.f6.body.getD .skip) [1, 1, 1, 1, 0, 1, 0, 0, 1, 1, 0, 0, 1, 1, 0, 1, 1, 1, 0, 1, 1, 1, 1, 1, 1, 1, 0])] (s6_p5_den K M1) (fun i => (bif Nat.beq i 2 then (s6_p2_den K M1) else (bif Nat.beq i 1 then (s6_p2_den K M1) else (bif Nat.beq i 0 then (s6_p1_den K) else (fun _ _ => False))))) (s6_R K)
theorem s6_p6_ok (K : Value → World → Prop) (B1 : List Value → World → Prop) (s : Nat → Value) (w : World) (h : s6_p6 K B1 (s 3) (s 4) (s 5) (s 6) (s 9) (s 11) (s 25) (s 26) (s 27) w) : Tr (s6_p6_den K (fun s w => B1 [s 3, s 4, s 5, s 6, s 25, s 26, s 27] w) s w) :=
  tr_simple (P := Tryz.prog) (codes := [(cd (Tryz.f6.body.getD .skip) [1, 1, 1, 1, 0, 1, 0, 0, 1, 1, 0, 0, 1, 1, 0, 1, 1, 1, 0, 1, 1, 1, 1, 1, 1, 1, 0])]) (N := (fun s w => s6_p5 K B1 (s 3) (s 4) (s 5) (s 6) (s 9) (s 25) (s 26) (s 27) (s 74) (s 75) (s 76) w)) (N' := (s6_p5_den K (fun s w => B1 [s 3, s 4, s 5, s 6, s 25, s 26, s 27] w))) (X := (fun i => (bif Nat.beq i 2 then (fun s w => s6_p2 K B1 (s 3) (s 4) (s 5) (s 6) (s 25) (s 26) (s 27) w) else (bif Nat.beq i 1 then (fun s w => s6_p2 K B1 (s 3) (s 4) (s 5) (s 6) (s 25) (s 26) (s 27) w) else (bif Nat.beq i 0 then (fun s w => s6_p1 K w) else (fun _ _ => False)))))) (X' := (fun i => (bif Nat.beq i 2 then (s6_p2_den K (fun s w => B1 [s 3, s 4, s 5, s 6, s 25, s 26, s 27] w)) else (bif Nat.beq i 1 then (s6_p2_den K (fun s w => B1 [s 3, s 4, s 5, s 6, s 25, s 26, s 27] w)) else (bif Nat.beq i 0 then (s6_p1_den K) else (fun _ _ => False)))))) (R := s6_R K) (s := s) (w := w) (p := s6_p6 K B1 (s 3) (s 4) (s 5) (s 6) (s 9) (s 11) (s 25) (s 26) (s 27) w) (q := s6_p6_den K (fun s w => B1 [s 3, s 4, s 5, s 6, s 25, s 26, s 27] w) s w) (fun s w h => s6_p5_ok K B1 s w @h) (fun i => (tr_bif (fun s w h => s6_p2_ok K B1 s w @h) (tr_bif (fun s w h => s6_p2_ok K B1 s w @h) (tr_bif (fun s w h => s6_p1_ok K s w @h) tr_id)))) (by kernel_rfl) (by kernel_rfl) @h
def s6_p7 (K : Value → World → Prop) (B1 : List Value → World → Prop) (t3 t4 t5 t6 t9 t10 t11 t25 t26 t27 : Value) (w : World) : Prop :=
  lnS t11 (fun t63 w =>
  lnS t9 (fun t65 w =>
  boI .neq t63 t65 (fun t66 w =>
  ifb t66
  (K (.bool false) w)
  (cl Tryz.prog 34 #[t3] (fun t68 w =>
  un .not t68 (fun t69 w =>
  gd t69 true (fun K w => K t10 w) (fun t71 w =>
  pk t69 t71 (.bool false) (fun t72 w =>
  ifb t72
  (s6_p6 K B1 t3 t4 t5 t9 t9 t11 t25 t26 t27 w)
  (s6_p6 K B1 t3 t4 t5 t6 t9 t11 t25 t26 t27 w)) w) w) w) w)) w) w) w
def s6_p7_den (K : Value → World → Prop) (M1 : (Nat → Value) → World → Prop) : (Nat → Value) → World → Prop := denL Tryz.prog [(cd (Tryz.f6.body.getD .skip) [1, 1, 1, 1, 0, 1, 0, 0, 1, 1, 0, 0, 1, 1, 0, 1, 1, 1, 0, 1, 1, 1, 1, 1, 0, 0]), (cd (Tryz.f6.body.getD .skip) [1, 1, 1, 1, 0, 1, 0, 0, 1, 1, 0, 0, 1, 1, 0, 1, 1, 1, 0, 1, 1, 1, 1, 1, 0, 1]), (cd (Tryz.f6.body.getD .skip) [1, 1, 1, 1, 0, 1, 0, 0, 1, 1, 0, 0, 1, 1, 0, 1, 1, 1, 0, 1, 1, 1, 1, 1, 1, 0, 0]), (cd (Tryz.f6.body.getD .skip) [1, 1, 1, 1, 0, 1, 0, 0, 1, 1, 0, 0, 1, 1, 0, 1, 1, 1, 0, 1, 1, 1, 1, 1, 1, 0, 1])] (s6_p6_den K M1) (fun i => (bif Nat.beq i 2 then (s6_p2_den K M1) else (bif Nat.beq i 1 then (s6_p2_den K M1) else (bif Nat.beq i 0 then (s6_p1_den K) else (fun _ _ => False))))) (s6_R K)
theorem s6_p7_ok (K : Value → World → Prop) (B1 : List Value → World → Prop) (s : Nat → Value) (w : World) (h : s6_p7 K B1 (s 3) (s 4) (s 5) (s 6) (s 9) (s 10) (s 11) (s 25) (s 26) (s 27) w) : Tr (s6_p7_den K (fun s w => B1 [s 3, s 4, s 5, s 6, s 25, s 26, s 27] w) s w) :=
  tr_simple (P := Tryz.prog) (codes := [(cd (Tryz.f6.body.getD .skip) [1, 1, 1, 1, 0, 1, 0, 0, 1, 1, 0, 0, 1, 1, 0, 1, 1, 1, 0, 1, 1, 1, 1, 1, 0, 0]), (cd (Tryz.f6.body.getD .skip) [1, 1, 1, 1, 0, 1, 0, 0, 1, 1, 0, 0, 1, 1, 0, 1, 1, 1, 0, 1, 1, 1, 1, 1, 0, 1]), (cd (Tryz.f6.body.getD .skip) [1, 1, 1, 1, 0, 1, 0, 0, 1, 1, 0, 0, 1, 1, 0, 1, 1, 1, 0, 1, 1, 1, 1, 1, 1, 0, 0]), (cd (Tryz.f6.body.getD .skip) [1, 1, 1, 1, 0, 1, 0, 0, 1, 1, 0, 0, 1, 1, 0, 1, 1, 1, 0, 1, 1, 1, 1, 1, 1, 0, 1])]) (N := (fun s w => s6_p6 K B1 (s 3) (s 4) (s 5) (s 6) (s 9) (s 11) (s 25) (s 26) (s 27) w)) (N' := (s6_p6_den K (fun s w => B1 [s 3, s 4, s 5, s 6, s 25, s 26, s 27] w))) (X := (fun i => (bif Nat.beq i 2 then (fun s w => s6_p2 K B1 (s 3) (s 4) (s 5) (s 6) (s 25) (s 26) (s 27) w) else (bif Nat.beq i 1 then (fun s w => s6_p2 K B1 (s 3) (s 4) (s 5) (s 6) (s 25) (s 26) (s 27) w) else (bif Nat.beq i 0 then (fun s w => s6_p1 K w) else (fun _ _ => False)))))) (X' := (fun i => (bif Nat.beq i 2 then (s6_p2_den K (fun s w => B1 [s 3, s 4, s 5, s 6, s 25, s 26, s 27] w)) else (bif Nat.beq i 1 then (s6_p2_den K (fun s w => B1 [s 3, s 4, s 5, s 6, s 25, s 26, s 27] w)) else (bif Nat.beq i 0 then (s6_p1_den K) else (fun _ _ => False)))))) (R := s6_R K) (s := s) (w := w) (p := s6_p7 K B1 (s 3) (s 4) (s 5) (s 6) (s 9) (s 10) (s 11) (s 25) (s 26) (s 27) w) (q := s6_p7_den K (fun s w => B1 [s 3, s 4, s 5, s 6, s 25, s 26, s 27] w) s w) (fun s w h => s6_p6_ok K B1 s w @h) (fun i => (tr_bif (fun s w h => s6_p2_ok K B1 s w @h) (tr_bif (fun s w h => s6_p2_ok K B1 s w @h) (tr_bif (fun s w h => s6_p1_ok K s w @h) tr_id)))) (by kernel_rfl) (by kernel_rfl) @h
def s6_p8 (K : Value → World → Prop) (B1 : List Value → World → Prop) (t3 t4 t5 t6 t8 t25 t26 t27 : Value) (w : World) : Prop :=
  fd 1 t8 (fun t43 w =>
  ld1 t43 (fun t44 w =>
  bsq 37 [(.slice none 0 0)] 1 [(some (0, 1), t44)] (fun t45 w =>
  apq 37 [(.slice none 0 0)] 24 t5 t45 (fun t46 w =>
  cl Tryz.prog 34 #[t3] (fun t48 w =>
  bsq 37 [(.slice none 0 0)] 1 [(some (0, 1), (.slice none 0 0))] (fun t49 w =>
  lnS t46 (fun t51 w =>
  boI .eql t51 (.int .i64 1) (fun t52 w =>
  ifb t52
  (fd 1 t8 (fun t55 w =>
  ld1 t55 (fun t56 w =>
  cl Tryz.prog 24 #[t3, t56] (fun t57 w =>
  ixs 1 t49 (.int .i64 0) (fun t58 w =>
  st1 t58 t57 (fun w =>
  s6_p7 K B1 t3 t4 (.slice none 0 0) t6 t46 t48 t49 t25 t26 t27 w) w) w) w) w) w)
  (cl Tryz.prog 37 #[t3, t46] (fun t61 w =>
  s6_p7 K B1 t3 t4 (.slice none 0 0) t6 t46 t48 t61 t25 t26 t27 w) w)) w) w) w) w) w) w) w) w
def s6_p8_den (K : Value → World → Prop) (M1 : (Nat → Value) → World → Prop) : (Nat → Value) → World → Prop := denL Tryz.prog [(cd (Tryz.f6.body.getD .skip) [1, 1, 1, 1, 0, 1, 0, 0, 1, 1, 0, 0, 1, 1, 0, 1, 1, 1, 0, 0]), (cd (Tryz.f6.body.getD .skip) [1, 1, 1, 1, 0, 1, 0, 0, 1, 1, 0, 0, 1, 1, 0, 1, 1, 1, 0, 1, 0]), (cd (Tryz.f6.body.getD .skip) [1, 1, 1, 1, 0, 1, 0, 0, 1, 1, 0, 0, 1, 1, 0, 1, 1, 1, 0, 1, 1, 0]), (cd (Tryz.f6.body.getD .skip) [1, 1, 1, 1, 0, 1, 0, 0, 1, 1, 0, 0, 1, 1, 0, 1, 1, 1, 0, 1, 1, 1, 0]), (cd (Tryz.f6.body.getD .skip) [1, 1, 1, 1, 0, 1, 0, 0, 1, 1, 0, 0, 1, 1, 0, 1, 1, 1, 0, 1, 1, 1, 1, 0, 0]), (cd (Tryz.f6.body.getD .skip) [1, 1, 1, 1, 0, 1, 0, 0, 1, 1, 0, 0, 1, 1, 0, 1, 1, 1, 0, 1, 1, 1, 1, 0, 1])] (s6_p7_den K M1) (fun i => (bif Nat.beq i 2 then (s6_p2_den K M1) else (bif Nat.beq i 1 then (s6_p2_den K M1) else (bif Nat.beq i 0 then (s6_p1_den K) else (fun _ _ => False))))) (s6_R K)
theorem s6_p8_ok (K : Value → World → Prop) (B1 : List Value → World → Prop) (s : Nat → Value) (w : World) (h : s6_p8 K B1 (s 3) (s 4) (s 5) (s 6) (s 8) (s 25) (s 26) (s 27) w) : Tr (s6_p8_den K (fun s w => B1 [s 3, s 4, s 5, s 6, s 25, s 26, s 27] w) s w) :=
  tr_simple (P := Tryz.prog) (codes := [(cd (Tryz.f6.body.getD .skip) [1, 1, 1, 1, 0, 1, 0, 0, 1, 1, 0, 0, 1, 1, 0, 1, 1, 1, 0, 0]), (cd (Tryz.f6.body.getD .skip) [1, 1, 1, 1, 0, 1, 0, 0, 1, 1, 0, 0, 1, 1, 0, 1, 1, 1, 0, 1, 0]), (cd (Tryz.f6.body.getD .skip) [1, 1, 1, 1, 0, 1, 0, 0, 1, 1, 0, 0, 1, 1, 0, 1, 1, 1, 0, 1, 1, 0]), (cd (Tryz.f6.body.getD .skip) [1, 1, 1, 1, 0, 1, 0, 0, 1, 1, 0, 0, 1, 1, 0, 1, 1, 1, 0, 1, 1, 1, 0]), (cd (Tryz.f6.body.getD .skip) [1, 1, 1, 1, 0, 1, 0, 0, 1, 1, 0, 0, 1, 1, 0, 1, 1, 1, 0, 1, 1, 1, 1, 0, 0]), (cd (Tryz.f6.body.getD .skip) [1, 1, 1, 1, 0, 1, 0, 0, 1, 1, 0, 0, 1, 1, 0, 1, 1, 1, 0, 1, 1, 1, 1, 0, 1])]) (N := (fun s w => s6_p7 K B1 (s 3) (s 4) (s 5) (s 6) (s 9) (s 10) (s 11) (s 25) (s 26) (s 27) w)) (N' := (s6_p7_den K (fun s w => B1 [s 3, s 4, s 5, s 6, s 25, s 26, s 27] w))) (X := (fun i => (bif Nat.beq i 2 then (fun s w => s6_p2 K B1 (s 3) (s 4) (s 5) (s 6) (s 25) (s 26) (s 27) w) else (bif Nat.beq i 1 then (fun s w => s6_p2 K B1 (s 3) (s 4) (s 5) (s 6) (s 25) (s 26) (s 27) w) else (bif Nat.beq i 0 then (fun s w => s6_p1 K w) else (fun _ _ => False)))))) (X' := (fun i => (bif Nat.beq i 2 then (s6_p2_den K (fun s w => B1 [s 3, s 4, s 5, s 6, s 25, s 26, s 27] w)) else (bif Nat.beq i 1 then (s6_p2_den K (fun s w => B1 [s 3, s 4, s 5, s 6, s 25, s 26, s 27] w)) else (bif Nat.beq i 0 then (s6_p1_den K) else (fun _ _ => False)))))) (R := s6_R K) (s := s) (w := w) (p := s6_p8 K B1 (s 3) (s 4) (s 5) (s 6) (s 8) (s 25) (s 26) (s 27) w) (q := s6_p8_den K (fun s w => B1 [s 3, s 4, s 5, s 6, s 25, s 26, s 27] w) s w) (fun s w h => s6_p7_ok K B1 s w @h) (fun i => (tr_bif (fun s w h => s6_p2_ok K B1 s w @h) (tr_bif (fun s w h => s6_p2_ok K B1 s w @h) (tr_bif (fun s w h => s6_p1_ok K s w @h) tr_id)))) (by kernel_rfl) (by kernel_rfl) @h
def s6_p9_d (K : Value → World → Prop) (B1 : List Value → World → Prop) (t3 t4 t5 t6 t8 t25 t26 t27 : Value) (w0 w : World) : Prop :=
  nck t3 (fun t111 _ =>
  fd 0 t111 (fun t112 _ =>
  ld1 t112 (fun t113 _ =>
  fd 2 t8 (fun t114 _ =>
  ld1 t114 (fun t115 _ =>
  fd 3 t8 (fun t116 _ =>
  ld1 t116 (fun t117 _ =>
  cl Tryz.prog 32 #[t113, t115, t117] (fun t118 w =>
  s6_p2 K B1 t3 t4 t5 t6 t25 t26 t27 w) w) w0) w0) w0) w0) w0) w0) w0
def s6_p9 (K : Value → World → Prop) (B1 : List Value → World → Prop) (t3 t4 t5 t6 t8 t25 t26 t27 : Value) (w : World) : Prop := s6_p9_d K B1 t3 t4 t5 t6 t8 t25 t26 t27 (drw w) (drw w)
def s6_p9_den (K : Value → World → Prop) (M1 : (Nat → Value) → World → Prop) : (Nat → Value) → World → Prop := denL Tryz.prog [(cd (Tryz.f6.body.getD .skip) [1, 1, 1, 1, 0, 1, 0, 0, 1, 1, 0, 0, 1, 1, 0, 1, 1, 1, 1, 1, 0])] (s6_p2_den K M1) (fun i => (bif Nat.beq i 2 then (s6_p2_den K M1) else (bif Nat.beq i 1 then (s6_p2_den K M1) else (bif Nat.beq i 0 then (s6_p1_den K) else (fun _ _ => False))))) (s6_R K)
theorem s6_p9_ok (K : Value → World → Prop) (B1 : List Value → World → Prop) (s : Nat → Value) (w : World) (h : s6_p9 K B1 (s 3) (s 4) (s 5) (s 6) (s 8) (s 25) (s 26) (s 27) w) : Tr (s6_p9_den K (fun s w => B1 [s 3, s 4, s 5, s 6, s 25, s 26, s 27] w) s w) :=
  tr_draw (P := Tryz.prog) (ops := (ro (cd (Tryz.f6.body.getD .skip) [1, 1, 1, 1, 0, 1, 0, 0, 1, 1, 0, 0, 1, 1, 0, 1, 1, 1, 1, 1, 0]))) (ms := [0, 1, 3, 7, 0, 16, 0, 64, 255]) (cs := [0, 1, 2, 3, 4, 5, 6, 7]) (N := (fun s w => s6_p2 K B1 (s 3) (s 4) (s 5) (s 6) (s 25) (s 26) (s 27) w)) (N' := (s6_p2_den K (fun s w => B1 [s 3, s 4, s 5, s 6, s 25, s 26, s 27] w))) (s := s) (w := w) (p := s6_p9 K B1 (s 3) (s 4) (s 5) (s 6) (s 8) (s 25) (s 26) (s 27) w) (q := s6_p9_den K (fun s w => B1 [s 3, s 4, s 5, s 6, s 25, s 26, s 27] w) s w) (by kernel_rfl) (by kernel_rfl) (fun s w h => s6_p2_ok K B1 s w @h) (by kernel_rfl) (by kernel_rfl) @h
def s6_p10 (K : Value → World → Prop) (B1 : List Value → World → Prop) (t3 t4 t5 t16 t25 t26 t27 : Value) (w : World) : Prop :=
  un .not t16 (fun t168 w =>
  ifb t168
  (K (.bool false) w)
  (s6_p2 K B1 t3 t4 t5 (.slice none 0 0) t25 t26 t27 w)) w
def s6_p10_den (K : Value → World → Prop) (M1 : (Nat → Value) → World → Prop) : (Nat → Value) → World → Prop := denL Tryz.prog [(cd (Tryz.f6.body.getD .skip) [1, 1, 1, 1, 0, 1, 0, 0, 1, 1, 0, 0, 1, 1, 0, 1, 1, 1, 1, 1, 1, 1, 0, 1, 1, 1, 1, 0, 0]), (cd (Tryz.f6.body.getD .skip) [1, 1, 1, 1, 0, 1, 0, 0, 1, 1, 0, 0, 1, 1, 0, 1, 1, 1, 1, 1, 1, 1, 0, 1, 1, 1, 1, 0, 1]), (cd (Tryz.f6.body.getD .skip) [1, 1, 1, 1, 0, 1, 0, 0, 1, 1, 0, 0, 1, 1, 0, 1, 1, 1, 1, 1, 1, 1, 0, 1, 1, 1, 1, 1])] (s6_p2_den K M1) (fun i => (bif Nat.beq i 2 then (s6_p2_den K M1) else (bif Nat.beq i 1 then (s6_p2_den K M1) else (bif Nat.beq i 0 then (s6_p1_den K) else (fun _ _ => False))))) (s6_R K)
theorem s6_p10_ok (K : Value → World → Prop) (B1 : List Value → World → Prop) (s : Nat → Value) (w : World) (h : s6_p10 K B1 (s 3) (s 4) (s 5) (s 16) (s 25) (s 26) (s 27) w) : Tr (s6_p10_den K (fun s w => B1 [s 3, s 4, s 5, s 6, s 25, s 26, s 27] w) s w) :=
  tr_simple (P := Tryz.prog) (codes := [(cd (Tryz.f6.body.getD .skip) [1, 1, 1, 1, 0, 1, 0, 0, 1, 1, 0, 0, 1, 1, 0, 1, 1, 1, 1, 1, 1, 1, 0, 1, 1, 1, 1, 0, 0]), (cd (Tryz.f6.body.getD .skip) [1, 1, 1, 1, 0, 1, 0, 0, 1, 1, 0, 0, 1, 1, 0, 1, 1, 1, 1, 1, 1, 1, 0, 1, 1, 1, 1, 0, 1]), (cd (Tryz.f6.body.getD .skip) [1, 1, 1, 1, 0, 1, 0, 0, 1, 1, 0, 0, 1, 1, 0, 1, 1, 1, 1, 1, 1, 1, 0, 1, 1, 1, 1, 1])]) (N := (fun s w => s6_p2 K B1 (s 3) (s 4) (s 5) (s 6) (s 25) (s 26) (s 27) w)) (N' := (s6_p2_den K (fun s w => B1 [s 3, s 4, s 5, s 6, s 25, s 26, s 27] w))) (X := (fun i => (bif Nat.beq i 2 then (fun s w => s6_p2 K B1 (s 3) (s 4) (s 5) (s 6) (s 25) (s 26) (s 27) w) else (bif Nat.beq i 1 then (fun s w => s6_p2 K B1 (s 3) (s 4) (s 5) (s 6) (s 25) (s 26) (s 27) w) else (bif Nat.beq i 0 then (fun s w => s6_p1 K w) else (fun _ _ => False)))))) (X' := (fun i => (bif Nat.beq i 2 then (s6_p2_den K (fun s w => B1 [s 3, s 4, s 5, s 6, s 25, s 26, s 27] w)) else (bif Nat.beq i 1 then (s6_p2_den K (fun s w => B1 [s 3, s 4, s 5, s 6, s 25, s 26, s 27] w)) else (bif Nat.beq i 0 then (s6_p1_den K) else (fun _ _ => False)))))) (R := s6_R K) (s := s) (w := w) (p := s6_p10 K B1 (s 3) (s 4) (s 5) (s 16) (s 25) (s 26) (s 27) w) (q := s6_p10_den K (fun s w => B1 [s 3, s 4, s 5, s 6, s 25, s 26, s 27] w) s w) (fun s w h => s6_p2_ok K B1 s w @h) (fun i => (tr_bif (fun s w h => s6_p2_ok K B1 s w @h) (tr_bif (fun s w h => s6_p2_ok K B1 s w @h) (tr_bif (fun s w h => s6_p1_ok K s w @h) tr_id)))) (by kernel_rfl) (by kernel_rfl) @h
def s6_p11 (K : Value → World → Prop) (B1 : List Value → World → Prop) (B2 : List Value → World → Prop) (t3 t4 t5 t6 t15 t16 t17 t25 t26 t27 : Value) (w : World) : Prop :=
  un .not t16 (fun t147 w =>
  gd t147 true (fun K w => K t17 w) (fun t149 w =>
  gd t147 true (fun K w => K t6 w) (fun t150 w =>
  gd t147 true (lnS t150) (fun t151 w =>
  gd t147 true (boI .lss t149 t151) (fun t152 w =>
  pk t147 t152 (.bool false) (fun t153 w =>
  ifb t153
  (ixs 1 t6 t17 (fun t159 w =>
  ld1 t159 (fun t160 w =>
  cl Tryz.prog 25 #[t4, t160] (fun t161 w =>
  cl Tryz.prog 26 #[(.func (.func 25) #[t4] #[])] (fun t165 w =>
  cl Tryz.prog 23 #[t15, t165] (fun t166 w =>
  boI .add t17 (.int .i64 1) (fun t155 w =>
  B2 [t3, t4, t5, t6, t15, t166, t155, t25, t26, t27] w) w) w) w) w) w) w)
  (s6_p10 K B1 t3 t4 t5 t16 t25 t26 t27 w)) w) w) w) w) w) w
def s6_p11_den (K : Value → World → Prop) (M1 : (Nat → Value) → World → Prop) (M2 : (Nat → Value) → World → Prop) : (Nat → Value) → World → Prop := denL Tryz.prog [(cd (Tryz.f6.body.getD .skip) [1, 1, 1, 1, 0, 1, 0, 0, 1, 1, 0, 0, 1, 1, 0, 1, 1, 1, 1, 1, 1, 1, 0, 1, 1, 1, 0, 1, 0, 0, 0, 0]), (cd (Tryz.f6.body.getD .skip) [1, 1, 1, 1, 0, 1, 0, 0, 1, 1, 0, 0, 1, 1, 0, 1, 1, 1, 1, 1, 1, 1, 0, 1, 1, 1, 0, 1, 0, 0, 0, 1]), (cd (Tryz.f6.body.getD .skip) [1, 1, 1, 1, 0, 1, 0, 0, 1, 1, 0, 0, 1, 1, 0, 1, 1, 1, 1, 1, 1, 1, 0, 1, 1, 1, 0, 1, 0, 0, 1, 0]), (cd (Tryz.f6.body.getD .skip) [1, 1, 1, 1, 0, 1, 0, 0, 1, 1, 0, 0, 1, 1, 0, 1, 1, 1, 1, 1, 1, 1, 0, 1, 1, 1, 0, 1, 0, 0, 1, 1])] M2 (fun i => (bif Nat.beq i 5 then (s6_p10_den K M1) else (bif Nat.beq i 2 then (s6_p2_den K M1) else (bif Nat.beq i 1 then (s6_p2_den K M1) else (bif Nat.beq i 0 then (s6_p1_den K) else (fun _ _ => False)))))) (s6_R K)
theorem s6_p11_ok (K : Value → World → Prop) (B1 : List Value → World → Prop) (B2 : List Value → World → Prop) (s : Nat → Value) (w : World) (h : s6_p11 K B1 B2 (s 3) (s 4) (s 5) (s 6) (s 15) (s 16) (s 17) (s 25) (s 26) (s 27) w) : Tr (s6_p11_den K (fun s w => B1 [s 3, s 4, s 5, s 6, s 25, s 26, s 27] w) (fun s w => B2 [s 3, s 4, s 5, s 6, s 15, s 16, s 17, s 25, s 26, s 27] w) s w) :=
  tr_simple (P := Tryz.prog) (codes := [(cd (Tryz.f6.body.getD .skip) [1, 1, 1, 1, 0, 1, 0, 0, 1, 1, 0, 0, 1, 1, 0, 1, 1, 1, 1, 1, 1, 1, 0, 1, 1, 1, 0, 1, 0, 0, 0, 0]), (cd (Tryz.f6.body.getD .skip) [1, 1, 1, 1, 0, 1, 0, 0, 1, 1, 0, 0, 1, 1, 0, 1, 1, 1, 1, 1, 1, 1, 0, 1, 1, 1, 0, 1, 0, 0, 0, 1]), (cd (Tryz.f6.body.getD .skip) [1, 1, 1, 1, 0, 1, 0, 0, 1, 1, 0, 0, 1, 1, 0, 1, 1, 1, 1, 1, 1, 1, 0, 1, 1, 1, 0, 1, 0, 0, 1, 0]), (cd (Tryz.f6.body.getD .skip) [1, 1, 1, 1, 0, 1, 0, 0, 1, 1, 0, 0, 1, 1, 0, 1, 1, 1, 1, 1, 1, 1, 0, 1, 1, 1, 0, 1, 0, 0, 1, 1])]) (N := (fun s w => B2 [s 3, s 4, s 5, s 6, s 15, s 16, s 17, s 25, s 26, s 27] w)) (N' := (fun s w => B2 [s 3, s 4, s 5, s 6, s 15, s 16, s 17, s 25, s 26, s 27] w)) (X := (fun i => (bif Nat.beq i 5 then (fun s w => s6_p10 K B1 (s 3) (s 4) (s 5) (s 16) (s 25) (s 26) (s 27) w) else (bif Nat.beq i 2 then (fun s w => s6_p2 K B1 (s 3) (s 4) (s 5) (s 6) (s 25) (s 26) (s 27) w) else (bif Nat.beq i 1 then (fun s w => s6_p2 K B1 (s 3) (s 4) (s 5) (s 6) (s 25) (s 26) (s 27) w) else (bif Nat.beq i 0 then (fun s w => s6_p1 K w) else (fun _ _ => False))))))) (X' := (fun i => (bif Nat.beq i 5 then (s6_p10_den K (fun s w => B1 [s 3, s 4, s 5, s 6, s 25, s 26, s 27] w)) else (bif Nat.beq i 2 then (s6_p2_den K (fun s w => B1 [s 3, s 4, s 5, s 6, s 25, s 26, s 27] w)) else (bif Nat.beq i 1 then (s6_p2_den K (fun s w => B1 [s 3, s 4, s 5, s 6, s 25, s 26, s 27] w)) else (bif Nat.beq i 0 then (s6_p1_den K) else (fun _ _ => False))))))) (R := s6_R K) (s := s) (w := w) (p := s6_p11 K B1 B2 (s 3) (s 4) (s 5) (s 6) (s 15) (s 16) (s 17) (s 25) (s 26) (s 27) w) (q := s6_p11_den K (fun s w => B1 [s 3, s 4, s 5, s 6, s 25, s 26, s 27] w) (fun s w => B2 [s 3, s 4, s 5, s 6, s 15, s 16, s 17, s 25, s 26, s 27] w) s w) tr_id (fun i => (tr_bif (fun s w h => s6_p10_ok K B1 s w @h) (tr_bif (fun s w h => s6_p2_ok K B1 s w @h) (tr_bif (fun s w h => s6_p2_ok K B1 s w @h) (tr_bif (fun s w h => s6_p1_ok K s w @h) tr_id))))) (by kernel_rfl) (by kernel_rfl) @h
def s6_p12_F (K : Value → World → Prop) (B1 : List Value → World → Prop) (B2 : List Value → World → Prop) (l : List Value) (w : World) : Prop :=
  match l with
  | [t3, t4, t5, t6, t15, t16, t17, t25, t26, t27] => s6_p11 K B1 B2 t3 t4 t5 t6 t15 t16 t17 t25 t26 t27 w
  | _ => False
theorem s6_p12_Fe {K : Value → World → Prop} {B1 : List Value → World → Prop} {B2 : List Value → World → Prop} {t3 t4 t5 t6 t15 t16 t17 t25 t26 t27 : Value} {w : World} : s6_p12_F K B1 B2 [t3, t4, t5, t6, t15, t16, t17, t25, t26, t27] w = s6_p11 K B1 B2 t3 t4 t5 t6 t15 t16 t17 t25 t26 t27 w := by kernel_rfl
def s6_p12 (K : Value → World → Prop) (B1 : List Value → World → Prop) (t3 t4 t5 t6 t15 t16 t17 t25 t26 t27 : Value) (w : World) : Prop :=
  LoopL (s6_p12_F K B1) [t3, t4, t5, t6, t15, t16, t17, t25, t26, t27] w
def s6_p12_den (K : Value → World → Prop) (M1 : (Nat → Value) → World → Prop) : (Nat → Value) → World → Prop := fun s w => LoopP (fun M2 s w => s6_p11_den K M1 M2 s w) s w
theorem s6_p12_ok (K : Value → World → Prop) (B1 : List Value → World → Prop) (s : Nat → Value) (w : World) (h : s6_p12 K B1 (s 3) (s 4) (s 5) (s 6) (s 15) (s 16) (s 17) (s 25) (s 26) (s 27) w) : Tr (s6_p12_den K (fun s w => B1 [s 3, s 4, s 5, s 6, s 25, s 26, s 27] w) s w) :=
  tr_loop (G := fun N' s w => s6_p11_den K (fun s w => B1 [s 3, s 4, s 5, s 6, s 25, s 26, s 27] w) N' s w) (F := s6_p12_F K B1) (sel := fun s => [s 3, s 4, s 5, s 6, s 15, s 16, s 17, s 25, s 26, s 27]) (s := s) (w := w) (p := s6_p12 K B1 (s 3) (s 4) (s 5) (s 6) (s 15) (s 16) (s 17) (s 25) (s 26) (s 27) w) (q := s6_p12_den K (fun s w => B1 [s 3, s 4, s 5, s 6, s 25, s 26, s 27] w) s w) (fun B s w h => s6_p11_ok K B1 B s w @h) (by kernel_rfl) (by kernel_rfl) @h
def s6_p13 (K : Value → World → Prop) (B1 : List Value → World → Prop) (t3 t4 t5 t6 t8 t25 t26 t27 : Value) (w : World) : Prop :=
  ldn 4 t8 (fun t122 w =>
  cl Tryz.prog 33 #[t3, t122] (fun t123 w =>
  boI .neq t123 (.int .i64 0) (fun t125 w =>
  ifb t125
  (boI .neq t123 (.int .i64 19) (fun t127 w =>
  gd t127 false (fun K w => K t3 w) (fun t129 w =>
  gd t127 false (nck t129) (fun t130 w =>
  gd t127 false (fd 0 t130) (fun t131 w =>
  gd t127 false (ld1 t131) (fun t132 w =>
  gd t127 false (nck t132) (fun t133 w =>
  gd t127 false (fd 7 t133) (fun t134 w =>
  gd t127 false (ld1 t134) (fun t135 w =>
  gd t127 false (un .not t135) (fun t136 w =>
  pk t127 (.bool true) t136 (fun t137 w =>
  ifb t137
  (K (.bool false) w)
  (s6_p2 K B1 t3 t4 t5 t6 t25 t26 t27 w)) w) w) w) w) w) w) w) w) w) w)
  (cl Tryz.prog 26 #[(.func (.func 24) #[t3] #[])] (fun t140 w =>
  cl Tryz.prog 26 #[(.func (.func 25) #[t4] #[])] (fun t144 w =>
  cl Tryz.prog 23 #[t140, t144] (fun t145 w =>
  s6_p12 K B1 t3 t4 t5 t6 t140 t145 (.int .i64 0) t25 t26 t27 w) w) w) w)) w) w) w
def s6_p13_den (K : Value → World → Prop) (M1 : (Nat → Value) → World → Prop) : (Nat → Value) → World → Prop := denL Tryz.prog [(cd (Tryz.f6.body.getD .skip) [1, 1, 1, 1, 0, 1, 0, 0, 1, 1, 0, 0, 1, 1, 0, 1, 1, 1, 1, 1, 1, 1, 0, 0, 0]), (cd (Tryz.f6.body.getD .skip) [1, 1, 1, 1, 0, 1, 0, 0, 1, 1, 0, 0, 1, 1, 0, 1, 1, 1, 1, 1, 1, 1, 0, 0, 1, 0]), (cd (Tryz.f6.body.getD .skip) [1, 1, 1, 1, 0, 1, 0, 0, 1, 1, 0, 0, 1, 1, 0, 1, 1, 1, 1, 1, 1, 1, 0, 0, 1, 1]), (cd (Tryz.f6.body.getD .skip) [1, 1, 1, 1, 0, 1, 0, 0, 1, 1, 0, 0, 1, 1, 0, 1, 1, 1, 1, 1, 1, 1, 0, 1, 0]), (cd (Tryz.f6.body.getD .skip) [1, 1, 1, 1, 0, 1, 0, 0, 1, 1, 0, 0, 1, 1, 0, 1, 1, 1, 1, 1, 1, 1, 0, 1, 1, 0]), (cd (Tryz.f6.body.getD .skip) [1, 1, 1, 1, 0, 1, 0, 0, 1, 1, 0, 0, 1, 1, 0, 1, 1, 1, 1, 1, 1, 1, 0, 1, 1, 1, 0, 0])] (s6_p12_den K M1) (fun i => (bif Nat.beq i 2 then (s6_p2_den K M1) else (bif Nat.beq i 1 then (s6_p2_den K M1) else (bif Nat.beq i 0 then (s6_p1_den K) else (fun _ _ => False))))) (s6_R K)
theorem s6_p13_ok (K : Value → World → Prop) (B1 : List Value → World → Prop) (s : Nat → Value) (w : World) (h : s6_p13 K B1 (s 3) (s 4) (s 5) (s 6) (s 8) (s 25) (s 26) (s 27) w) : Tr (s6_p13_den K (fun s w => B1 [s 3, s 4, s 5, s 6, s 25, s 26, s 27] w) s w) :=
  tr_simple (P := Tryz.prog) (codes := [(cd (Tryz.f6.body.getD .skip) [1, 1, 1, 1, 0, 1, 0, 0, 1, 1, 0, 0, 1, 1, 0, 1, 1, 1, 1, 1, 1, 1, 0, 0, 0]), (cd (Tryz.f6.body.getD .skip) [1, 1, 1, 1, 0, 1, 0, 0, 1, 1, 0, 0, 1, 1, 0, 1, 1, 1, 1, 1, 1, 1, 0, 0, 1, 0]), (cd (Tryz.f6.body.getD .skip) [1, 1, 1, 1, 0, 1, 0, 0, 1, 1, 0, 0, 1, 1, 0, 1, 1, 1, 1, 1, 1, 1, 0, 0, 1, 1]), (cd (Tryz.f6.body.getD .skip) [1, 1, 1, 1, 0, 1, 0, 0, 1, 1, 0, 0, 1, 1, 0, 1, 1, 1, 1, 1, 1, 1, 0, 1, 0]), (cd (Tryz.f6.body.getD .skip) [1, 1, 1, 1, 0, 1, 0, 0, 1, 1, 0, 0, 1, 1, 0, 1, 1, 1, 1, 1, 1, 1, 0, 1, 1, 0]), (cd (Tryz.f6.body.getD .skip) [1, 1, 1, 1, 0, 1, 0, 0, 1, 1, 0, 0, 1, 1, 0, 1, 1, 1, 1, 1, 1, 1, 0, 1, 1, 1, 0, 0])]) (N := (fun s w => s6_p12 K B1 (s 3) (s 4) (s 5) (s 6) (s 15) (s 16) (s 17) (s 25) (s 26) (s 27) w)) (N' := (s6_p12_den K (fun s w => B1 [s 3, s 4, s 5, s 6, s 25, s 26, s 27] w))) (X := (fun i => (bif Nat.beq i 2 then (fun s w => s6_p2 K B1 (s 3) (s 4) (s 5) (s 6) (s 25) (s 26) (s 27) w) else (bif Nat.beq i 1 then (fun s w => s6_p2 K B1 (s 3) (s 4) (s 5) (s 6) (s 25) (s 26) (s 27) w) else (bif Nat.beq i 0 then (fun s w => s6_p1 K w) else (fun _ _ => False)))))) (X' := (fun i => (bif Nat.beq i 2 then (s6_p2_den K (fun s w => B1 [s 3, s 4, s 5, s 6, s 25, s 26, s 27] w)) else (bif Nat.beq i 1 then (s6_p2_den K (fun s w => B1 [s 3, s 4, s 5, s 6, s 25, s 26, s 27] w)) else (bif Nat.beq i 0 then (s6_p1_den K) else (fun _ _ => False)))))) (R := s6_R K) (s := s) (w := w) (p := s6_p13 K B1 (s 3) (s 4) (s 5) (s 6) (s 8) (s 25) (s 26) (s 27) w) (q := s6_p13_den K (fun s w => B1 [s 3, s 4, s 5, s 6, s 25, s 26, s 27] w) s w) (fun s w h => s6_p12_ok K B1 s w @h) (fun i => (tr_bif (fun s w h => s6_p2_ok K B1 s w @h) (tr_bif (fun s w h => s6_p2_ok K B1 s w @h) (tr_bif (fun s w h => s6_p1_ok K s w @h) tr_id)))) (by kernel_rfl) (by kernel_rfl) @h
def s6_p14 (K : Value → World → Prop) (B1 : List Value → World → Prop) (t3 t4 t5 t6 t8 t25 t26 t27 t119 : Value) (w : World) : Prop :=
  ifb t119
  (s6_p13 K B1 t3 t4 t5 t6 t8 t25 t26 t27 w)
  (s6_p2 K B1 t3 t4 t5 t6 t25 t26 t27 w)
def s6_p14_den (K : Value → World → Prop) (M1 : (Nat → Value) → World → Prop) : (Nat → Value) → World → Prop := fun s w => ifb (ev s (.tmp 119)) ((s6_p13_den K M1) s w) ((s6_p2_den K M1) s w)
theorem s6_p14_ok (K : Value → World → Prop) (B1 : List Value → World → Prop) (s : Nat → Value) (w : World) (h : s6_p14 K B1 (s 3) (s 4) (s 5) (s 6) (s 8) (s 25) (s 26) (s 27) (s 119) w) : Tr (s6_p14_den K (fun s w => B1 [s 3, s 4, s 5, s 6, s 25, s 26, s 27] w) s w) :=
  tr_cond (v := ev s (.tmp 119)) (a := (fun s w => s6_p13 K B1 (s 3) (s 4) (s 5) (s 6) (s 8) (s 25) (s 26) (s 27) w) s w) (a' := (s6_p13_den K (fun s w => B1 [s 3, s 4, s 5, s 6, s 25, s 26, s 27] w)) s w) (b := (fun s w => s6_p2 K B1 (s 3) (s 4) (s 5) (s 6) (s 25) (s 26) (s 27) w) s w) (b' := (s6_p2_den K (fun s w => B1 [s 3, s 4, s 5, s 6, s 25, s 26, s 27] w)) s w) (p := s6_p14 K B1 (s 3) (s 4) (s 5) (s 6) (s 8) (s 25) (s 26) (s 27) (s 119) w) (q := s6_p14_den K (fun s w => B1 [s 3, s 4, s 5, s 6, s 25, s 26, s 27] w) s w) ((fun s w h => s6_p13_ok K B1 s w @h) s w) ((fun s w h => s6_p2_ok K B1 s w @h) s w) (by kernel_rfl) (by kernel_rfl) @h
def s6_p15 (K : Value → World → Prop) (B1 : List Value → World → Prop) (t3 t4 t5 t6 t8 t25 t26 t27 t32 : Value) (w : World) : Prop :=
  boI .eql t32 (.int .i64 2) (fun t120 w =>
  s6_p14 K B1 t3 t4 t5 t6 t8 t25 t26 t27 t120 w) w
def s6_p15_den (K : Value → World → Prop) (M1 : (Nat → Value) → World → Prop) : (Nat → Value) → World → Prop := denL Tryz.prog [(cd (Tryz.f6.body.getD .skip) [1, 1, 1, 1, 0, 1, 0, 0, 1, 1, 0, 0, 1, 1, 0, 1, 1, 1, 1, 1, 1, 0])] (s6_p14_den K M1) (fun i => (bif Nat.beq i 2 then (s6_p2_den K M1) else (bif Nat.beq i 1 then (s6_p2_den K M1) else (bif Nat.beq i 0 then (s6_p1_den K) else (fun _ _ => False))))) (s6_R K)
theorem s6_p15_ok (K : Value → World → Prop) (B1 : List Value → World → Prop) (s : Nat → Value) (w : World) (h : s6_p15 K B1 (s 3) (s 4) (s 5) (s 6) (s 8) (s 25) (s 26) (s 27) (s 32) w) : Tr (s6_p15_den K (fun s w => B1 [s 3, s 4, s 5, s 6, s 25, s 26, s 27] w) s w) :=
  tr_simple (P := Tryz.prog) (codes := [(cd (Tryz.f6.body.getD .skip) [1, 1, 1, 1, 0, 1, 0, 0, 1, 1, 0, 0, 1, 1, 0, 1, 1, 1, 1, 1, 1, 0])]) (N := (fun s w => s6_p14 K B1 (s 3) (s 4) (s 5) (s 6) (s 8) (s 25) (s 26) (s 27) (s 119) w)) (N' := (s6_p14_den K (fun s w => B1 [s 3, s 4, s 5, s 6, s 25, s 26, s 27] w))) (X := (fun i => (bif Nat.beq i 2 then (fun s w => s6_p2 K B1 (s 3) (s 4) (s 5) (s 6) (s 25) (s 26) (s 27) w) else (bif Nat.beq i 1 then (fun s w => s6_p2 K B1 (s 3) (s 4) (s 5) (s 6) (s 25) (s 26) (s 27) w) else (bif Nat.beq i 0 then (fun s w => s6_p1 K w) else (fun _ _ => False)))))) (X' := (fun i => (bif Nat.beq i 2 then (s6_p2_den K (fun s w => B1 [s 3, s 4, s 5, s 6, s 25, s 26, s 27] w)) else (bif Nat.beq i 1 then (s6_p2_den K (fun s w => B1 [s 3, s 4, s 5, s 6, s 25, s 26, s 27] w)) else (bif Nat.beq i 0 then (s6_p1_den K) else (fun _ _ => False)))))) (R := s6_R K) (s := s) (w := w) (p := s6_p15 K B1 (s 3) (s 4) (s 5) (s 6) (s 8) (s 25) (s 26) (s 27) (s 32) w) (q := s6_p15_den K (fun s w => B1 [s 3, s 4, s 5, s 6, s 25, s 26, s 27] w) s w) (fun s w h => s6_p14_ok K B1 s w @h) (fun i => (tr_bif (fun s w h => s6_p2_ok K B1 s w @h) (tr_bif (fun s w h => s6_p2_ok K B1 s w @h) (tr_bif (fun s w h => s6_p1_ok K s w @h) tr_id)))) (by kernel_rfl) (by kernel_rfl) @h
def s6_p16 (K : Value → World → Prop) (B1 : List Value → World → Prop) (t3 t4 t5 t6 t8 t25 t26 t27 t32 t108 : Value) (w : World) : Prop :=
  ifb t108
  (s6_p9 K B1 t3 t4 t5 t6 t8 t25 t26 t27 w)
  (s6_p15 K B1 t3 t4 t5 t6 t8 t25 t26 t27 t32 w)
def s6_p16_den (K : Value → World → Prop) (M1 : (Nat → Value) → World → Prop) : (Nat → Value) → World → Prop := fun s w => ifb (ev s (.tmp 108)) ((s6_p9_den K M1) s w) ((s6_p15_den K M1) s w)
theorem s6_p16_ok (K : Value → World → Prop) (B1 : List Value → World → Prop) (s : Nat → Value) (w : World) (h : s6_p16 K B1 (s 3) (s 4) (s 5) (s 6) (s 8) (s 25) (s 26) (s 27) (s 32) (s 108) w) : Tr (s6_p16_den K (fun s w => B1 [s 3, s 4, s 5, s 6, s 25, s 26, s 27] w) s w) :=
  tr_cond (v := ev s (.tmp 108)) (a := (fun s w => s6_p9 K B1 (s 3) (s 4) (s 5) (s 6) (s 8) (s 25) (s 26) (s 27) w) s w) (a' := (s6_p9_den K (fun s w => B1 [s 3, s 4, s 5, s 6, s 25, s 26, s 27] w)) s w) (b := (fun s w => s6_p15 K B1 (s 3) (s 4) (s 5) (s 6) (s 8) (s 25) (s 26) (s 27) (s 32) w) s w) (b' := (s6_p15_den K (fun s w => B1 [s 3, s 4, s 5, s 6, s 25, s 26, s 27] w)) s w) (p := s6_p16 K B1 (s 3) (s 4) (s 5) (s 6) (s 8) (s 25) (s 26) (s 27) (s 32) (s 108) w) (q := s6_p16_den K (fun s w => B1 [s 3, s 4, s 5, s 6, s 25, s 26, s 27] w) s w) ((fun s w h => s6_p9_ok K B1 s w @h) s w) ((fun s w h => s6_p15_ok K B1 s w @h) s w) (by kernel_rfl) (by kernel_rfl) @h
def s6_p17 (K : Value → World → Prop) (B1 : List Value → World → Prop) (t3 t4 t5 t6 t8 t25 t26 t27 t32 : Value) (w : World) : Prop :=
  boI .eql t32 (.int .i64 1) (fun t109 w =>
  s6_p16 K B1 t3 t4 t5 t6 t8 t25 t26 t27 t32 t109 w) w
def s6_p17_den (K : Value → World → Prop) (M1 : (Nat → Value) → World → Prop) : (Nat → Value) → World → Prop := denL Tryz.prog [(cd (Tryz.f6.body.getD .skip) [1, 1, 1, 1, 0, 1, 0, 0, 1, 1, 0, 0, 1, 1, 0, 1, 1, 1, 1, 0])] (s6_p16_den K M1) (fun i => (bif Nat.beq i 2 then (s6_p2_den K M1) else (bif Nat.beq i 1 then (s6_p2_den K M1) else (bif Nat.beq i 0 then (s6_p1_den K) else (fun _ _ => False))))) (s6_R K)
theorem s6_p17_ok (K : Value → World → Prop) (B1 : List Value → World → Prop) (s : Nat → Value) (w : World) (h : s6_p17 K B1 (s 3) (s 4) (s 5) (s 6) (s 8) (s 25) (s 26) (s 27) (s 32) w) : Tr (s6_p17_den K (fun s w => B1 [s 3, s 4, s 5, s 6, s 25, s 26, s 27] w) s w) :=
  tr_simple (P := Tryz.prog) (codes := [(cd (Tryz.f6.body.getD .skip) [1, 1, 1, 1, 0, 1, 0, 0, 1, 1, 0, 0, 1, 1, 0, 1, 1, 1, 1, 0])]) (N := (fun s w => s6_p16 K B1 (s 3) (s 4) (s 5) (s 6) (s 8) (s 25) (s 26) (s 27) (s 32) (s 108) w)) (N' := (s6_p16_den K (fun s w => B1 [s 3, s 4, s 5, s 6, s 25, s 26, s 27] w))) (X := (fun i => (bif Nat.beq i 2 then (fun s w => s6_p2 K B1 (s 3) (s 4) (s 5) (s 6) (s 25) (s 26) (s 27) w) else (bif Nat.beq i 1 then (fun s w => s6_p2 K B1 (s 3) (s 4) (s 5) (s 6) (s 25) (s 26) (s 27) w) else (bif Nat.beq i 0 then (fun s w => s6_p1 K w) else (fun _ _ => False)))))) (X' := (fun i => (bif Nat.beq i 2 then (s6_p2_den K (fun s w => B1 [s 3, s 4, s 5, s 6, s 25, s 26, s 27] w)) else (bif Nat.beq i 1 then (s6_p2_den K (fun s w => B1 [s 3, s 4, s 5, s 6, s 25, s 26, s 27] w)) else (bif Nat.beq i 0 then (s6_p1_den K) else (fun _ _ => False)))))) (R := s6_R K) (s := s) (w := w) (p := s6_p17 K B1 (s 3) (s 4) (s 5) (s 6) (s 8) (s 25) (s 26) (s 27) (s 32) w) (q := s6_p17_den K (fun s w => B1 [s 3, s 4, s 5, s 6, s 25, s 26, s 27] w) s w) (fun s w h => s6_p16_ok K B1 s w @h) (fun i => (tr_bif (fun s w h => s6_p2_ok K B1 s w @h) (tr_bif (fun s w h => s6_p2_ok K B1 s w @h) (tr_bif (fun s w h => s6_p1_ok K s w @h) tr_id)))) (by kernel_rfl) (by kernel_rfl) @h
def s6_p18 (K : Value → World → Prop) (B1 : List Value → World → Prop) (t3 t4 t5 t6 t8 t25 t26 t27 t32 t40 : Value) (w : World) : Prop :=
  ifb t40
  (s6_p8 K B1 t3 t4 t5 t6 t8 t25 t26 t27 w)
  (s6_p17 K B1 t3 t4 t5 t6 t8 t25 t26 t27 t32 w)
def s6_p18_den (K : Value → World → Prop) (M1 : (Nat → Value) → World → Prop) : (Nat → Value) → World → Prop := fun s w => ifb (ev s (.tmp 40)) ((s6_p8_den K M1) s w) ((s6_p17_den K M1) s w)
theorem s6_p18_ok (K : Value → World → Prop) (B1 : List Value → World → Prop) (s : Nat → Value) (w : World) (h : s6_p18 K B1 (s 3) (s 4) (s 5) (s 6) (s 8) (s 25) (s 26) (s 27) (s 32) (s 40) w) : Tr (s6_p18_den K (fun s w => B1 [s 3, s 4, s 5, s 6, s 25, s 26, s 27] w) s w) :=
  tr_cond (v := ev s (.tmp 40)) (a := (fun s w => s6_p8 K B1 (s 3) (s 4) (s 5) (s 6) (s 8) (s 25) (s 26) (s 27) w) s w) (a' := (s6_p8_den K (fun s w => B1 [s 3, s 4, s 5, s 6, s 25, s 26, s 27] w)) s w) (b := (fun s w => s6_p17 K B1 (s 3) (s 4) (s 5) (s 6) (s 8) (s 25) (s 26) (s 27) (s 32) w) s w) (b' := (s6_p17_den K (fun s w => B1 [s 3, s 4, s 5, s 6, s 25, s 26, s 27] w)) s w) (p := s6_p18 K B1 (s 3) (s 4) (s 5) (s 6) (s 8) (s 25) (s 26) (s 27) (s 32) (s 40) w) (q := s6_p18_den K (fun s w => B1 [s 3, s 4, s 5, s 6, s 25, s 26, s 27] w) s w) ((fun s w h => s6_p8_ok K B1 s w @h) s w) ((fun s w h => s6_p17_ok K B1 s w @h) s w) (by kernel_rfl) (by kernel_rfl) @h
def s6_p19 (K : Value → World → Prop) (B1 : List Value → World → Prop) (t3 t4 t5 t6 t8 t25 t26 t27 t32 : Value) (w : World) : Prop :=
  boI .eql t32 (.int .i64 0) (fun t41 w =>
  s6_p18 K B1 t3 t4 t5 t6 t8 t25 t26 t27 t32 t41 w) w
def s6_p19_den (K : Value → World → Prop) (M1 : (Nat → Value) → World → Prop) : (Nat → Value) → World → Prop := denL Tryz.prog [(cd (Tryz.f6.body.getD .skip) [1, 1, 1, 1, 0, 1, 0, 0, 1, 1, 0, 0, 1, 1, 0, 1, 1, 0])] (s6_p18_den K M1) (fun i => (bif Nat.beq i 2 then (s6_p2_den K M1) else (bif Nat.beq i 1 then (s6_p2_den K M1) else (bif Nat.beq i 0 then (s6_p1_den K) else (fun _ _ => False))))) (s6_R K)
theorem s6_p19_ok (K : Value → World → Prop) (B1 : List Value → World → Prop) (s : Nat → Value) (w : World) (h : s6_p19 K B1 (s 3) (s 4) (s 5) (s 6) (s 8) (s 25) (s 26) (s 27) (s 32) w) : Tr (s6_p19_den K (fun s w => B1 [s 3, s 4, s 5, s 6, s 25, s 26, s 27] w) s w) :=
  tr_simple (P := Tryz.prog) (codes := [(cd (Tryz.f6.body.getD .skip) [1, 1, 1, 1, 0, 1, 0, 0, 1, 1, 0, 0, 1, 1, 0, 1, 1, 0])]) (N := (fun s w => s6_p18 K B1 (s 3) (s 4) (s 5) (s 6) (s 8) (s 25) (s 26) (s 27) (s 32) (s 40) w)) (N' := (s6_p18_den K (fun s w => B1 [s 3, s 4, s 5, s 6, s 25, s 26, s 27] w))) (X := (fun i => (bif Nat.beq i 2 then (fun s w => s6_p2 K B1 (s 3) (s 4) (s 5) (s 6) (s 25) (s 26) (s 27) w) else (bif Nat.beq i 1 then (fun s w => s6_p2 K B1 (s 3) (s 4) (s 5) (s 6) (s 25) (s 26) (s 27) w) else (bif Nat.beq i 0 then (fun s w => s6_p1 K w) else (fun _ _ => False)))))) (X' := (fun i => (bif Nat.beq i 2 then (s6_p2_den K (fun s w => B1 [s 3, s 4, s 5, s 6, s 25, s 26, s 27] w)) else (bif Nat.beq i 1 then (s6_p2_den K (fun s w => B1 [s 3, s 4, s 5, s 6, s 25, s 26, s 27] w)) else (bif Nat.beq i 0 then (s6_p1_den K) else (fun _ _ => False)))))) (R := s6_R K) (s := s) (w := w) (p := s6_p19 K B1 (s 3) (s 4) (s 5) (s 6) (s 8) (s 25) (s 26) (s 27) (s 32) w) (q := s6_p19_den K (fun s w => B1 [s 3, s 4, s 5, s 6, s 25, s 26, s 27] w) s w) (fun s w h => s6_p18_ok K B1 s w @h) (fun i => (tr_bif (fun s w h => s6_p2_ok K B1 s w @h) (tr_bif (fun s w h => s6_p2_ok K B1 s w @h) (tr_bif (fun s w h => s6_p1_ok K s w @h) tr_id)))) (by kernel_rfl) (by kernel_rfl) @h
def s6_p20 (K : Value → World → Prop) (B1 : List Value → World → Prop) (t3 t4 t5 t6 t8 t25 t26 t27 t32 t33 : Value) (w : World) : Prop :=
  ifb t33
  (s6_p3 K B1 t3 t4 t5 t6 t8 t25 t26 t27 w)
  (s6_p19 K B1 t3 t4 t5 t6 t8 t25 t26 t27 t32 w)
def s6_p20_den (K : Value → World → Prop) (M1 : (Nat → Value) → World → Prop) : (Nat → Value) → World → Prop := fun s w => ifb (ev s (.tmp 33)) ((s6_p3_den K M1) s w) ((s6_p19_den K M1) s w)
theorem s6_p20_ok (K : Value → World → Prop) (B1 : List Value → World → Prop) (s : Nat → Value) (w : World) (h : s6_p20 K B1 (s 3) (s 4) (s 5) (s 6) (s 8) (s 25) (s 26) (s 27) (s 32) (s 33) w) : Tr (s6_p20_den K (fun s w => B1 [s 3, s 4, s 5, s 6, s 25, s 26, s 27] w) s w) :=
  tr_cond (v := ev s (.tmp 33)) (a := (fun s w => s6_p3 K B1 (s 3) (s 4) (s 5) (s 6) (s 8) (s 25) (s 26) (s 27) w) s w) (a' := (s6_p3_den K (fun s w => B1 [s 3, s 4, s 5, s 6, s 25, s 26, s 27] w)) s w) (b := (fun s w => s6_p19 K B1 (s 3) (s 4) (s 5) (s 6) (s 8) (s 25) (s 26) (s 27) (s 32) w) s w) (b' := (s6_p19_den K (fun s w => B1 [s 3, s 4, s 5, s 6, s 25, s 26, s 27] w)) s w) (p := s6_p20 K B1 (s 3) (s 4) (s 5) (s 6) (s 8) (s 25) (s 26) (s 27) (s 32) (s 33) w) (q := s6_p20_den K (fun s w => B1 [s 3, s 4, s 5, s 6, s 25, s 26, s 27] w) s w) ((fun s w h => s6_p3_ok K B1 s w @h) s w) ((fun s w h => s6_p19_ok K B1 s w @h) s w) (by kernel_rfl) (by kernel_rfl) @h
def s6_p21 (K : Value → World → Prop) (B1 : List Value → World → Prop) (t3 t4 t5 t6 t8 t25 t26 t27 t32 : Value) (w : World) : Prop :=
  boI .eql t32 (.int .i64 4) (fun t34 w =>
  s6_p20 K B1 t3 t4 t5 t6 t8 t25 t26 t27 t32 t34 w) w
def s6_p21_den (K : Value → World → Prop) (M1 : (Nat → Value) → World → Prop) : (Nat → Value) → World → Prop := denL Tryz.prog [(cd (Tryz.f6.body.getD .skip) [1, 1, 1, 1, 0, 1, 0, 0, 1, 1, 0, 0, 1, 1, 0, 0])] (s6_p20_den K M1) (fun i => (bif Nat.beq i 2 then (s6_p2_den K M1) else (bif Nat.beq i 1 then (s6_p2_den K M1) else (bif Nat.beq i 0 then (s6_p1_den K) else (fun _ _ => False))))) (s6_R K)
theorem s6_p21_ok (K : Value → World → Prop) (B1 : List Value → World → Prop) (s : Nat → Value) (w : World) (h : s6_p21 K B1 (s 3) (s 4) (s 5) (s 6) (s 8) (s 25) (s 26) (s 27) (s 32) w) : Tr (s6_p21_den K (fun s w => B1 [s 3, s 4, s 5, s 6, s 25, s 26, s 27] w) s w) :=
  tr_simple (P := Tryz.prog) (codes := [(cd (Tryz.f6.body.getD .skip) [1, 1, 1, 1, 0, 1, 0, 0, 1, 1, 0, 0, 1, 1, 0, 0])]) (N := (fun s w => s6_p20 K B1 (s 3) (s 4) (s 5) (s 6) (s 8) (s 25) (s 26) (s 27) (s 32) (s 33) w)) (N' := (s6_p20_den K (fun s w => B1 [s 3, s 4, s 5, s 6, s 25, s 26, s 27] w))) (X := (fun i => (bif Nat.beq i 2 then (fun s w => s6_p2 K B1 (s 3) (s 4) (s 5) (s 6) (s 25) (s 26) (s 27) w) else (bif Nat.beq i 1 then (fun s w => s6_p2 K B1 (s 3) (s 4) (s 5) (s 6) (s 25) (s 26) (s 27) w) else (bif Nat.beq i 0 then (fun s w => s6_p1 K w) else (fun _ _ => False)))))) (X' := (fun i => (bif Nat.beq i 2 then (s6_p2_den K (fun s w => B1 [s 3, s 4, s 5, s 6, s 25, s 26, s 27] w)) else (bif Nat.beq i 1 then (s6_p2_den K (fun s w => B1 [s 3, s 4, s 5, s 6, s 25, s 26, s 27] w)) else (bif Nat.beq i 0 then (s6_p1_den K) else (fun _ _ => False)))))) (R := s6_R K) (s := s) (w := w) (p := s6_p21 K B1 (s 3) (s 4) (s 5) (s 6) (s 8) (s 25) (s 26) (s 27) (s 32) w) (q := s6_p21_den K (fun s w => B1 [s 3, s 4, s 5, s 6, s 25, s 26, s 27] w) s w) (fun s w h => s6_p20_ok K B1 s w @h) (fun i => (tr_bif (fun s w h => s6_p2_ok K B1 s w @h) (tr_bif (fun s w h => s6_p2_ok K B1 s w @h) (tr_bif (fun s w h => s6_p1_ok K s w @h) tr_id)))) (by kernel_rfl) (by kernel_rfl) @h
def s6_p22 (K : Value → World → Prop) (B1 : List Value → World → Prop) (t3 t4 t5 t6 t25 t26 t27 : Value) (w : World) : Prop :=
  ixs 4 t25 t27 (fun t29 w =>
  ldn 4 t29 (fun t30 w =>
  nw 39 #[(.int .i64 0), (.slice none 0 0), (.int .i64 0), (.int .i64 0)] (fun t8 w =>
  stn 4 t8 t30 (fun w =>
  fd 0 t8 (fun t31 w =>
  ld1 t31 (fun t32 w =>
  s6_p21 K B1 t3 t4 t5 t6 t8 t25 t26 t27 t32 w) w) w) w) w) w) w
def s6_p22_den (K : Value → World → Prop) (M1 : (Nat → Value) → World → Prop) : (Nat → Value) → World → Prop := denL Tryz.prog [(cd (Tryz.f6.body.getD .skip) [1, 1, 1, 1, 0, 1, 0, 0, 1, 1, 0, 0, 0]), (cd (Tryz.f6.body.getD .skip) [1, 1, 1, 1, 0, 1, 0, 0, 1, 1, 0, 0, 1, 0])] (s6_p21_den K M1) (fun i => (bif Nat.beq i 1 then (s6_p2_den K M1) else (bif Nat.beq i 0 then (s6_p1_den K) else (fun _ _ => False)))) (s6_R K)
theorem s6_p22_ok (K : Value → World → Prop) (B1 : List Value → World → Prop) (s : Nat → Value) (w : World) (h : s6_p22 K B1 (s 3) (s 4) (s 5) (s 6) (s 25) (s 26) (s 27) w) : Tr (s6_p22_den K (fun s w => B1 [s 3, s 4, s 5, s 6, s 25, s 26, s 27] w) s w) :=
  tr_simple (P := Tryz.prog) (codes := [(cd (Tryz.f6.body.getD .skip) [1, 1, 1, 1, 0, 1, 0, 0, 1, 1, 0, 0, 0]), (cd (Tryz.f6.body.getD .skip) [1, 1, 1, 1, 0, 1, 0, 0, 1, 1, 0, 0, 1, 0])]) (N := (fun s w => s6_p21 K B1 (s 3) (s 4) (s 5) (s 6) (s 8) (s 25) (s 26) (s 27) (s 32) w)) (N' := (s6_p21_den K (fun s w => B1 [s 3, s 4, s 5, s 6, s 25, s 26, s 27] w))) (X := (fun i => (bif Nat.beq i 1 then (fun s w => s6_p2 K B1 (s 3) (s 4) (s 5) (s 6) (s 25) (s 26) (s 27) w) else (bif Nat.beq i 0 then (fun s w => s6_p1 K w) else (fun _ _ => False))))) (X' := (fun i => (bif Nat.beq i 1 then (s6_p2_den K (fun s w => B1 [s 3, s 4, s 5, s 6, s 25, s 26, s 27] w)) else (bif Nat.beq i 0 then (s6_p1_den K) else (fun _ _ => False))))) (R := s6_R K) (s := s) (w := w) (p := s6_p22 K B1 (s 3) (s 4) (s 5) (s 6) (s 25) (s 26) (s 27) w) (q := s6_p22_den K (fun s w => B1 [s 3, s 4, s 5, s 6, s 25, s 26, s 27] w) s w) (fun s w h => s6_p21_ok K B1 s w @h) (fun i => (tr_bif (fun s w h => s6_p2_ok K B1 s w @h) (tr_bif (fun s w h => s6_p1_ok K s w @h) tr_id))) (by kernel_rfl) (by kernel_rfl) @h
def s6_p23 (K : Value → World → Prop) (B1 : List Value → World → Prop) (t3 t4 t5 t6 t25 t26 t27 : Value) (w : World) : Prop :=
  boI .lss t27 t26 (fun t28 w =>
  ifb t28
  (s6_p22 K B1 t3 t4 t5 t6 t25 t26 t27 w)
  (s6_p1 K w)) w
def s6_p23_den (K : Value → World → Prop) (M1 : (Nat → Value) → World → Prop) : (Nat → Value) → World → Prop := denL Tryz.prog [(cd (Tryz.f6.body.getD .skip) [1, 1, 1, 1, 0, 1, 0, 0, 0]), (cd (Tryz.f6.body.getD .skip) [1, 1, 1, 1, 0, 1, 0, 0, 1, 0])] (s6_p22_den K M1) (fun i => (bif Nat.beq i 0 then (s6_p1_den K) else (fun _ _ => False))) (s6_R K)
theorem s6_p23_ok (K : Value → World → Prop) (B1 : List Value → World → Prop) (s : Nat → Value) (w : World) (h : s6_p23 K B1 (s 3) (s 4) (s 5) (s 6) (s 25) (s 26) (s 27) w) : Tr (s6_p23_den K (fun s w => B1 [s 3, s 4, s 5, s 6, s 25, s 26, s 27] w) s w) :=
  tr_simple (P := Tryz.prog) (codes := [(cd (Tryz.f6.body.getD .skip) [1, 1, 1, 1, 0, 1, 0, 0, 0]), (cd (Tryz.f6.body.getD .skip) [1, 1, 1, 1, 0, 1, 0, 0, 1, 0])]) (N := (fun s w => s6_p22 K B1 (s 3) (s 4) (s 5) (s 6) (s 25) (s 26) (s 27) w)) (N' := (s6_p22_den K (fun s w => B1 [s 3, s 4, s 5, s 6, s 25, s 26, s 27] w))) (X := (fun i => (bif Nat.beq i 0 then (fun s w => s6_p1 K w) else (fun _ _ => False)))) (X' := (fun i => (bif Nat.beq i 0 then (s6_p1_den K) else (fun _ _ => False)))) (R := s6_R K) (s := s) (w := w) (p := s6_p23 K B1 (s 3) (s 4) (s 5) (s 6) (s 25) (s 26) (s 27) w) (q := s6_p23_den K (fun s w => B1 [s 3, s 4, s 5, s 6, s 25, s 26, s 27] w) s w) (fun s w h => s6_p22_ok K B1 s w @h) (fun i => (tr_bif (fun s w h => s6_p1_ok K s w @h) tr_id)) (by kernel_rfl) (by kernel_rfl) @h
def s6_p24_F (K : Value → World → Prop) (B1 : List Value → World → Prop) (l : List Value) (w : World) : Prop :=
  match l with
  | [t3, t4, t5, t6, t25, t26, t27] => s6_p23 K B1 t3 t4 t5 t6 t25 t26 t27 w
  | _ => False
theorem s6_p24_Fe {K : Value → World → Prop} {B1 : List Value → World → Prop} {t3 t4 t5 t6 t25 t26 t27 : Value} {w : World} : s6_p24_F K B1 [t3, t4, t5, t6, t25, t26, t27] w = s6_p23 K B1 t3 t4 t5 t6 t25 t26 t27 w := by kernel_rfl
def s6_p24 (K : Value → World → Prop) (t3 t4 t5 t6 t25 t26 t27 : Value) (w : World) : Prop :=
  LoopL (s6_p24_F K) [t3, t4, t5, t6, t25, t26, t27] w
def s6_p24_den (K : Value → World → Prop) : (Nat → Value) → World → Prop := fun s w => LoopP (fun M1 s w => s6_p23_den K M1 s w) s w
theorem s6_p24_ok (K : Value → World → Prop) (s : Nat → Value) (w : World) (h : s6_p24 K (s 3) (s 4) (s 5) (s 6) (s 25) (s 26) (s 27) w) : Tr (s6_p24_den K s w) :=
  tr_loop (G := fun N' s w => s6_p23_den K N' s w) (F := s6_p24_F K) (sel := fun s => [s 3, s 4, s 5, s 6, s 25, s 26, s 27]) (s := s) (w := w) (p := s6_p24 K (s 3) (s 4) (s 5) (s 6) (s 25) (s 26) (s 27) w) (q := s6_p24_den K s w) (fun B s w h => s6_p23_ok K B s w @h) (by kernel_rfl) (by kernel_rfl) @h
def s6_p25 (K : Value → World → Prop) (t0 : Value) (w : World) : Prop :=
  cl Tryz.prog 17 #[t0] (fun t19 w =>
  un .not t19 (fun t20 w =>
  ifb t20
  (K (.bool true) w)
  (cl Tryz.prog 19 #[] (fun t21 w =>
  cl Tryz.prog 18 #[t21] (fun t22 w =>
  cl Tryz.prog 21 #[] (fun t23 w =>
  cl Tryz.prog 20 #[t23] (fun t24 w =>
  lnS t0 (fun t26 w =>
  s6_p24 K t22 t24 (.slice none 0 0) (.slice none 0 0) t0 t26 (.int .i64 0) w) w) w) w) w) w)) w) w
def s6_p25_den (K : Value → World → Prop) : (Nat → Value) → World → Prop := denL Tryz.prog [(cd (Tryz.f6.body.getD .skip) [0]), (cd (Tryz.f6.body.getD .skip) [1, 0, 0]), (cd (Tryz.f6.body.getD .skip) [1, 0, 1]), (cd (Tryz.f6.body.getD .skip) [1, 1, 0]), (cd (Tryz.f6.body.getD .skip) [1, 1, 1, 0]), (cd (Tryz.f6.body.getD .skip) [1, 1, 1, 1, 0, 0])] (s6_p24_den K) (fun i => (fun _ _ => False)) (s6_R K)
theorem s6_p25_ok (K : Value → World → Prop) (s : Nat → Value) (w : World) (h : s6_p25 K (s 0) w) : Tr (s6_p25_den K s w) :=
  tr_simple (P := Tryz.prog) (codes := [(cd (Tryz.f6.body.getD .skip) [0]), (cd (Tryz.f6.body.getD .skip) [1, 0, 0]), (cd (Tryz.f6.body.getD .skip) [1, 0, 1]), (cd (Tryz.f6.body.getD .skip) [1, 1, 0]), (cd (Tryz.f6.body.getD .skip) [1, 1, 1, 0]), (cd (Tryz.f6.body.getD .skip) [1, 1, 1, 1, 0, 0])]) (N := (fun s w => s6_p24 K (s 3) (s 4) (s 5) (s 6) (s 25) (s 26) (s 27) w)) (N' := (s6_p24_den K)) (X := (fun i => (fun _ _ => False))) (X' := (fun i => (fun _ _ => False))) (R := s6_R K) (s := s) (w := w) (p := s6_p25 K (s 0) w) (q := s6_p25_den K s w) (fun s w h => s6_p24_ok K s w @h) (fun i => tr_id) (by kernel_rfl) (by kernel_rfl) @h
/-- the call, from the text -/
theorem c6 (t0 : Value) {K : Value → World → Prop} {w : World} (h : s6_p25 K t0 w) : cl Tryz.prog 6 #[t0] K w :=
  calls_of_tr (c := (Tryz.f6.body.getD .skip)) (fn := Tryz.f6) (q := s6_p25_den K (st0 #[t0]) w) Tryz.func6 (by kernel_rfl) (by kernel_rfl) (Nat.le_of_ble_eq_true (by kernel_rfl)) (by kernel_rfl) (by kernel_rfl) (s6_p25_ok K (st0 #[t0]) w @h)

end Go.Proofs.Qxb6500896aGreat
