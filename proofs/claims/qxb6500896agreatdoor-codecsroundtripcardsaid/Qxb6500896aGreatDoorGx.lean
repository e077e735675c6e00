import Derived.Test.Qxb6500896aGreatDoorProg
import Derived.Test.Qxb6500896aGreatDoorShTr
namespace Go.Proofs.Qxb6500896aGreatDoor
open Go.Sh Go.RowKit
set_option linter.unusedVariables false
set_option maxRecDepth 100000

/-! ### function 5 : e2e.enginelaw.CodecsRoundTrip -/
def s5_R (K : Value → World → Prop) (s : Nat → Value) (w : World) : Prop := retv Tryz.prog s Tryz.f5.results.toList (fun vs => K (pack vs) w) w
def s5_p1 (K : Value → World → Prop) (w : World) : Prop :=
  K (.bool true) w
def s5_p1_den (K : Value → World → Prop) : (Nat → Value) → World → Prop := denL Tryz.prog [(cd (Tryz.f5.body.getD .skip) [1, 1, 1, 1, 0]), (cd (Tryz.f5.body.getD .skip) [1, 1, 1, 1, 1])] (fun _ _ => False) (fun i => (fun _ _ => False)) (s5_R K)
theorem s5_p1_ok (K : Value → World → Prop) (s : Nat → Value) (w : World) (h : s5_p1 K w) : Tr (s5_p1_den K s w) :=
  tr_simple (P := Tryz.prog) (codes := [(cd (Tryz.f5.body.getD .skip) [1, 1, 1, 1, 0]), (cd (Tryz.f5.body.getD .skip) [1, 1, 1, 1, 1])]) (N := (fun _ _ => False)) (N' := (fun _ _ => False)) (X := (fun i => (fun _ _ => False))) (X' := (fun i => (fun _ _ => False))) (R := s5_R K) (s := s) (w := w) (p := s5_p1 K w) (q := s5_p1_den K s w) tr_id (fun i => tr_id) (by kernel_rfl) (by kernel_rfl) @h
def s5_p2 (K : Value → World → Prop) (B1 : List Value → World → Prop) (t3 t18 t19 t20 : Value) (w : World) : Prop :=
  boI .add t20 (.int .i64 1) (fun t87 w =>
  B1 [t3, t18, t19, t87] w) w
def s5_p2_den (K : Value → World → Prop) (M1 : (Nat → Value) → World → Prop) : (Nat → Value) → World → Prop := denL Tryz.prog [(cd (Tryz.f5.body.getD .skip) [1, 1, 1, 0, 1, 0, 0, 1, 1, 1])] M1 (fun i => (bif Nat.beq i 0 then (s5_p1_den K) else (fun _ _ => False))) (s5_R K)
theorem s5_p2_ok (K : Value → World → Prop) (B1 : List Value → World → Prop) (s : Nat → Value) (w : World) (h : s5_p2 K B1 (s 3) (s 18) (s 19) (s 20) w) : Tr (s5_p2_den K (fun s w => B1 [s 3, s 18, s 19, s 20] w) s w) :=
  tr_simple (P := Tryz.prog) (codes := [(cd (Tryz.f5.body.getD .skip) [1, 1, 1, 0, 1, 0, 0, 1, 1, 1])]) (N := (fun s w => B1 [s 3, s 18, s 19, s 20] w)) (N' := (fun s w => B1 [s 3, s 18, s 19, s 20] w)) (X := (fun i => (bif Nat.beq i 0 then (fun s w => s5_p1 K w) else (fun _ _ => False)))) (X' := (fun i => (bif Nat.beq i 0 then (s5_p1_den K) else (fun _ _ => False)))) (R := s5_R K) (s := s) (w := w) (p := s5_p2 K B1 (s 3) (s 18) (s 19) (s 20) w) (q := s5_p2_den K (fun s w => B1 [s 3, s 18, s 19, s 20] w) s w) tr_id (fun i => (tr_bif (fun s w h => s5_p1_ok K s w @h) tr_id)) (by kernel_rfl) (by kernel_rfl) @h
def s5_p3 (K : Value → World → Prop) (B1 : List Value → World → Prop) (t3 t18 t19 t20 : Value) (w : World) : Prop :=
  boI .lss t20 t19 (fun t21 w =>
  ifb t21
  (ixs 4 t18 t20 (fun t22 w =>
  ldn 4 t22 (fun t23 w =>
  nw 37 #[(.int .i64 0), (.slice none 0 0), (.int .i64 0), (.int .i64 0)] (fun t5 w =>
  stn 4 t5 t23 (fun w =>
  ldn 4 t5 (fun t24 w =>
  cl Tryz.prog 20 #[t24] (fun t25 w =>
  un .not t25 (fun t26 w =>
  gd t26 true (fd 0 t5) (fun t28 w =>
  gd t26 true (ld1 t28) (fun t29 w =>
  gd t26 true (boI .neq t29 (.int .i64 3)) (fun t30 w =>
  pk t26 t30 (.bool false) (fun t31 w =>
  ifb t31
  (s5_p2 K B1 t3 t18 t19 t20 w)
  (fd 1 t5 (fun t33 w =>
  ld1 t33 (fun t34 w =>
  cl Tryz.prog 13 #[t34] (fun t35 w =>
  exq t35 0 (fun t36 w =>
  exq t35 1 (fun t37 w =>
  nw 49 #[(.int .u8 0), (.int .i64 0), (.int .i64 0), (.int .i64 0), (.int .i64 0), (.int .i64 0), (.int .i64 0), (.slice none 0 0)] (fun t6 w =>
  stn 8 t6 t36 (fun w =>
  boI .eql t37 (.int .i64 0) (fun t39 w =>
  ifb t39
  (ldn 8 t6 (fun t41 w =>
  cl Tryz.prog 30 #[t41] (fun t42 w =>
  exq t42 0 (fun t43 w =>
  exq t42 1 (fun t44 w =>
  un .not t44 (fun t46 w =>
  gd t46 false (fun K w => K t43 w) (fun t48 w =>
  gd t46 false (fd 1 t5) (fun t49 w =>
  gd t46 false (ld1 t49) (fun t50 w =>
  gd t46 false (cl Tryz.prog 27 #[t48, t50]) (fun t51 w =>
  gd t46 false (un .not t51) (fun t52 w =>
  pk t46 (.bool true) t52 (fun t53 w =>
  ifb t53
  (K (.bool false) w)
  (fd 1 t5 (fun t55 w =>
  ld1 t55 (fun t56 w =>
  cl Tryz.prog 11 #[t3, t56] (fun t57 w =>
  cl Tryz.prog 14 #[t57] (fun t60 w =>
  exq t60 0 (fun t61 w =>
  exq t60 1 (fun t62 w =>
  nw 46 #[(.int .i64 0), (.int .u8 0), (.int .i64 0), (.int .i64 0), (.int .i64 0), (.int .i64 0), (.int .i64 0), (.slice none 0 0), (.int .i64 0), (.int .i64 0), (.int .i64 0), (.slice none 0 0), (.int .i64 0), (.int .i64 0), (.int .i64 0), (.int .i64 0), (.int .i64 0), (.int .i64 0), (.slice none 0 0), (.int .i64 0), (.int .i64 0), (.int .i64 0), (.int .i64 0), (.int .i64 0), (.int .i64 0), (.int .i64 0), (.int .i64 0), (.int .i64 0), (.int .i64 0), (.int .i64 0), (.int .i64 0), (.int .i64 0), (.int .i64 0), (.int .i64 0)] (fun t11 w =>
  stn 34 t11 t61 (fun w =>
  un .not t62 (fun t64 w =>
  gd t64 false (ldn 34 t11) (fun t66 w =>
  gd t64 false (cl Tryz.prog 31 #[t66]) (fun t67 w =>
  gd t64 false (fun K w => K t57 w) (fun t68 w =>
  gd t64 false (cl Tryz.prog 27 #[t67, t68]) (fun t69 w =>
  gd t64 false (un .not t69) (fun t70 w =>
  pk t64 (.bool true) t70 (fun t71 w =>
  ifb t71
  (K (.bool false) w)
  (fd 1 t5 (fun t72 w =>
  ld1 t72 (fun t73 w =>
  cl Tryz.prog 32 #[t73] (fun t74 w =>
  boS .eql t74 (.string ⟨#[]⟩) (fun t75 w =>
  gd t75 false (fun K w => K t57 w) (fun t77 w =>
  gd t75 false (cl Tryz.prog 33 #[t77]) (fun t78 w =>
  gd t75 false (boS .eql t78 (.string ⟨#[]⟩)) (fun t79 w =>
  pk t75 (.bool true) t79 (fun t80 w =>
  gd t80 false (fd 1 t5) (fun t82 w =>
  gd t80 false (ld1 t82) (fun t83 w =>
  gd t80 false (cl Tryz.prog 33 #[t83]) (fun t84 w =>
  gd t80 false (boS .eql t84 (.string ⟨#[]⟩)) (fun t85 w =>
  pk t80 (.bool true) t85 (fun t86 w =>
  ifb t86
  (K (.bool false) w)
  (s5_p2 K B1 t3 t18 t19 t20 w)) w) w) w) w) w) w) w) w) w) w) w) w) w)) w) w) w) w) w) w) w) w) w) w) w) w) w) w) w)) w) w) w) w) w) w) w) w) w) w) w)
  (fd 1 t5 (fun t55_2 w =>
  ld1 t55_2 (fun t56_2 w =>
  cl Tryz.prog 11 #[t3, t56_2] (fun t57_2 w =>
  cl Tryz.prog 14 #[t57_2] (fun t60_2 w =>
  exq t60_2 0 (fun t61_2 w =>
  exq t60_2 1 (fun t62_2 w =>
  nw 46 #[(.int .i64 0), (.int .u8 0), (.int .i64 0), (.int .i64 0), (.int .i64 0), (.int .i64 0), (.int .i64 0), (.slice none 0 0), (.int .i64 0), (.int .i64 0), (.int .i64 0), (.slice none 0 0), (.int .i64 0), (.int .i64 0), (.int .i64 0), (.int .i64 0), (.int .i64 0), (.int .i64 0), (.slice none 0 0), (.int .i64 0), (.int .i64 0), (.int .i64 0), (.int .i64 0), (.int .i64 0), (.int .i64 0), (.int .i64 0), (.int .i64 0), (.int .i64 0), (.int .i64 0), (.int .i64 0), (.int .i64 0), (.int .i64 0), (.int .i64 0), (.int .i64 0)] (fun t11_2 w =>
  stn 34 t11_2 t61_2 (fun w =>
  un .not t62_2 (fun t64_2 w =>
  gd t64_2 false (ldn 34 t11_2) (fun t66_2 w =>
  gd t64_2 false (cl Tryz.prog 31 #[t66_2]) (fun t67_2 w =>
  gd t64_2 false (fun K w => K t57_2 w) (fun t68_2 w =>
  gd t64_2 false (cl Tryz.prog 27 #[t67_2, t68_2]) (fun t69_2 w =>
  gd t64_2 false (un .not t69_2) (fun t70_2 w =>
  pk t64_2 (.bool true) t70_2 (fun t71_2 w =>
  ifb t71_2
  (K (.bool false) w)
  (fd 1 t5 (fun t72_2 w =>
  ld1 t72_2 (fun t73_2 w =>
  cl Tryz.prog 32 #[t73_2] (fun t74_2 w =>
  boS .eql t74_2 (.string ⟨#[]⟩) (fun t75_2 w =>
  gd t75_2 false (fun K w => K t57_2 w) (fun t77_2 w =>
  gd t75_2 false (cl Tryz.prog 33 #[t77_2]) (fun t78_2 w =>
  gd t75_2 false (boS .eql t78_2 (.string ⟨#[]⟩)) (fun t79_2 w =>
  pk t75_2 (.bool true) t79_2 (fun t80_2 w =>
  gd t80_2 false (fd 1 t5) (fun t82_2 w =>
  gd t80_2 false (ld1 t82_2) (fun t83_2 w =>
  gd t80_2 false (cl Tryz.prog 33 #[t83_2]) (fun t84_2 w =>
  gd t80_2 false (boS .eql t84_2 (.string ⟨#[]⟩)) (fun t85_2 w =>
  pk t80_2 (.bool true) t85_2 (fun t86_2 w =>
  ifb t86_2
  (K (.bool false) w)
  (s5_p2 K B1 t3 t18 t19 t20 w)) w) w) w) w) w) w) w) w) w) w) w) w) w)) w) w) w) w) w) w) w) w) w) w) w) w) w) w) w)) w) w) w) w) w) w) w) w)) w) w) w) w) w) w) w) w) w) w) w)
  (s5_p1 K w)) w
def s5_p3_den (K : Value → World → Prop) (M1 : (Nat → Value) → World → Prop) : (Nat → Value) → World → Prop := denL Tryz.prog [(cd (Tryz.f5.body.getD .skip) [1, 1, 1, 0, 1, 0, 0, 0]), (cd (Tryz.f5.body.getD .skip) [1, 1, 1, 0, 1, 0, 0, 1, 0]), (cd (Tryz.f5.body.getD .skip) [1, 1, 1, 0, 1, 0, 0, 1, 1, 0])] (s5_p2_den K M1) (fun i => (bif Nat.beq i 0 then (s5_p1_den K) else (fun _ _ => False))) (s5_R K)
theorem s5_p3_ok (K : Value → World → Prop) (B1 : List Value → World → Prop) (s : Nat → Value) (w : World) (h : s5_p3 K B1 (s 3) (s 18) (s 19) (s 20) w) : Tr (s5_p3_den K (fun s w => B1 [s 3, s 18, s 19, s 20] w) s w) :=
  tr_simple (P := Tryz.prog) (codes := [(cd (Tryz.f5.body.getD .skip) [1, 1, 1, 0, 1, 0, 0, 0]), (cd (Tryz.f5.body.getD .skip) [1, 1, 1, 0, 1, 0, 0, 1, 0]), (cd (Tryz.f5.body.getD .skip) [1, 1, 1, 0, 1, 0, 0, 1, 1, 0])]) (N := (fun s w => s5_p2 K B1 (s 3) (s 18) (s 19) (s 20) w)) (N' := (s5_p2_den K (fun s w => B1 [s 3, s 18, s 19, s 20] w))) (X := (fun i => (bif Nat.beq i 0 then (fun s w => s5_p1 K w) else (fun _ _ => False)))) (X' := (fun i => (bif Nat.beq i 0 then (s5_p1_den K) else (fun _ _ => False)))) (R := s5_R K) (s := s) (w := w) (p := s5_p3 K B1 (s 3) (s 18) (s 19) (s 20) w) (q := s5_p3_den K (fun s w => B1 [s 3, s 18, s 19, s 20] w) s w) (fun s w h => s5_p2_ok K B1 s w @h) (fun i => (tr_bif (fun s w h => s5_p1_ok K s w @h) tr_id)) (by kernel_rfl) (by kernel_rfl) @h
def s5_p4_F (K : Value → World → Prop) (B1 : List Value → World → Prop) (l : List Value) (w : World) : Prop :=
  match l with
  | [t3, t18, t19, t20] => s5_p3 K B1 t3 t18 t19 t20 w
  | _ => False
theorem s5_p4_Fe {K : Value → World → Prop} {B1 : List Value → World → Prop} {t3 t18 t19 t20 : Value} {w : World} : s5_p4_F K B1 [t3, t18, t19, t20] w = s5_p3 K B1 t3 t18 t19 t20 w := by kernel_rfl
def s5_p4 (K : Value → World → Prop) (t3 t18 t19 t20 : Value) (w : World) : Prop :=
  LoopL (s5_p4_F K) [t3, t18, t19, t20] w
def s5_p4_den (K : Value → World → Prop) : (Nat → Value) → World → Prop := fun s w => LoopP (fun M1 s w => s5_p3_den K M1 s w) s w
theorem s5_p4_ok (K : Value → World → Prop) (s : Nat → Value) (w : World) (h : s5_p4 K (s 3) (s 18) (s 19) (s 20) w) : Tr (s5_p4_den K s w) :=
  tr_loop (G := fun N' s w => s5_p3_den K N' s w) (F := s5_p4_F K) (sel := fun s => [s 3, s 18, s 19, s 20]) (s := s) (w := w) (p := s5_p4 K (s 3) (s 18) (s 19) (s 20) w) (q := s5_p4_den K s w) (fun B s w h => s5_p3_ok K B s w @h) (by kernel_rfl) (by kernel_rfl) @h
def s5_p5 (K : Value → World → Prop) (t0 : Value) (w : World) : Prop :=
  cl Tryz.prog 7 #[t0] (fun t14 w =>
  un .not t14 (fun t15 w =>
  ifb t15
  (K (.bool true) w)
  (cl Tryz.prog 9 #[] (fun t16 w =>
  cl Tryz.prog 8 #[t16] (fun t17 w =>
  lnS t0 (fun t19 w =>
  s5_p4 K t17 t0 t19 (.int .i64 0) w) w) w) w)) w) w
def s5_p5_den (K : Value → World → Prop) : (Nat → Value) → World → Prop := denL Tryz.prog [(cd (Tryz.f5.body.getD .skip) [0]), (cd (Tryz.f5.body.getD .skip) [1, 0, 0]), (cd (Tryz.f5.body.getD .skip) [1, 0, 1]), (cd (Tryz.f5.body.getD .skip) [1, 1, 0]), (cd (Tryz.f5.body.getD .skip) [1, 1, 1, 0, 0])] (s5_p4_den K) (fun i => (fun _ _ => False)) (s5_R K)
theorem s5_p5_ok (K : Value → World → Prop) (s : Nat → Value) (w : World) (h : s5_p5 K (s 0) w) : Tr (s5_p5_den K s w) :=
  tr_simple (P := Tryz.prog) (codes := [(cd (Tryz.f5.body.getD .skip) [0]), (cd (Tryz.f5.body.getD .skip) [1, 0, 0]), (cd (Tryz.f5.body.getD .skip) [1, 0, 1]), (cd (Tryz.f5.body.getD .skip) [1, 1, 0]), (cd (Tryz.f5.body.getD .skip) [1, 1, 1, 0, 0])]) (N := (fun s w => s5_p4 K (s 3) (s 18) (s 19) (s 20) w)) (N' := (s5_p4_den K)) (X := (fun i => (fun _ _ => False))) (X' := (fun i => (fun _ _ => False))) (R := s5_R K) (s := s) (w := w) (p := s5_p5 K (s 0) w) (q := s5_p5_den K s w) (fun s w h => s5_p4_ok K s w @h) (fun i => tr_id) (by kernel_rfl) (by kernel_rfl) @h
/-- the call, from the text -/
theorem c5 (t0 : Value) {K : Value → World → Prop} {w : World} (h : s5_p5 K t0 w) : cl Tryz.prog 5 #[t0] K w :=
  calls_of_tr (c := (Tryz.f5.body.getD .skip)) (fn := Tryz.f5) (q := s5_p5_den K (st0 #[t0]) w) Tryz.func5 (by kernel_rfl) (by kernel_rfl) (Nat.le_of_ble_eq_true (by kernel_rfl)) (by kernel_rfl) (by kernel_rfl) (s5_p5_ok K (st0 #[t0]) w @h)

end Go.Proofs.Qxb6500896aGreatDoor
