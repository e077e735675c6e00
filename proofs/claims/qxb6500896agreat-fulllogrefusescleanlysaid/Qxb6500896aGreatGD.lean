import Derived.Test.Qxb6500896aGreatProg
import Derived.Test.Qxb6500896aGreatShMix3
namespace Go.Proofs.Qxb6500896aGreat
open Go.Sh Go.RowKit
set_option linter.unusedVariables false
set_option maxRecDepth 100000

/-! ### function 12 : e2e.enginelaw.FullLogRefusesCleanly -/
def s12_R (K : Value → World → Prop) (s : Nat → Value) (w : World) : Prop := retv Tryz.prog s Tryz.f12.results.toList (fun vs => K (pack vs) w) w
def s12_p1 (K : Value → World → Prop) (t3 t8 t9 : Value) (w : World) : Prop :=
  boF Tryz.prog true .eql t9 .nilIface (fun t62 w =>
  gd t62 true (fun K w => K t8 w) (fun t64 w =>
  gd t62 true (fun K w => K (.func (.func 40) #[t64] #[]) w) (fun t65 w =>
  gd t62 true (cl Tryz.prog 26 #[t65]) (fun t66 w =>
  gd t62 true (fun K w => K t3 w) (fun t67 w =>
  gd t62 true (fun K w => K (.func (.func 24) #[t67] #[]) w) (fun t68 w =>
  gd t62 true (cl Tryz.prog 26 #[t68]) (fun t69 w =>
  gd t62 true (cl Tryz.prog 23 #[t66, t69]) (fun t70 w =>
  pk t62 t70 (.bool false) (fun t71 w =>
  K t71 w) w) w) w) w) w) w) w) w) w
def s12_p1_den (K : Value → World → Prop) : (Nat → Value) → World → Prop := denL Tryz.prog [(cd (Tryz.f12.body.getD .skip) [1, 1, 1, 1, 1, 0]), (cd (Tryz.f12.body.getD .skip) [1, 1, 1, 1, 1, 1])] (fun _ _ => False) (fun i => (fun _ _ => False)) (s12_R K)
theorem s12_p1_ok (K : Value → World → Prop) (s : Nat → Value) (w : World) (h : s12_p1 K (s 3) (s 8) (s 9) w) : Tr (s12_p1_den K s w) :=
  tr_simple (P := Tryz.prog) (codes := [(cd (Tryz.f12.body.getD .skip) [1, 1, 1, 1, 1, 0]), (cd (Tryz.f12.body.getD .skip) [1, 1, 1, 1, 1, 1])]) (N := (fun _ _ => False)) (N' := (fun _ _ => False)) (X := (fun i => (fun _ _ => False))) (X' := (fun i => (fun _ _ => False))) (R := s12_R K) (s := s) (w := w) (p := s12_p1 K (s 3) (s 8) (s 9) w) (q := s12_p1_den K s w) tr_id (fun i => tr_id) (by kernel_rfl) (by kernel_rfl) @h
def s12_p2_d (K : Value → World → Prop) (J : World → Prop) (t3 : Value) (w0 w : World) : Prop :=
  nck t3 (fun t54 _ =>
  fd 0 t54 (fun t55 _ =>
  Go.Sh.R.qw J (ld1 t55) (fun t56 =>
  cl Tryz.prog 21 #[] (fun t52 w =>
  J w ∧
  cl Tryz.prog 39 #[t56] (fun t57 w =>
  cl Tryz.prog 38 #[t52, t57] (fun t58 w =>
  (exq t58 0 (fun t59 w =>
  (exq t58 1 (fun t60 w =>
  s12_p1 K t3 t59 t60 w) w) ∧
  (exq t58 1 (fun t60_2 w =>
  s12_p1 K t3 t59 t60_2 w) w)) w) ∧
  (exq t58 1 (fun t60_3 w =>
  exq t58 0 (fun t59_2 w =>
  s12_p1 K t3 t59_2 t60_3 w) w) w)) w) w) w)) w0) w0
def s12_p2 (K : Value → World → Prop) (t3 : Value) (w : World) : Prop := ∃ J : World → Prop, J (drw w) ∧ s12_p2_d K J t3 (drw w) (drw w)
def s12_p2_den (K : Value → World → Prop) : (Nat → Value) → World → Prop := denL Tryz.prog [(cd (Tryz.f12.body.getD .skip) [1, 1, 1, 1, 0])] (s12_p1_den K) (fun i => (fun _ _ => False)) (s12_R K)
theorem s12_p2_ok (K : Value → World → Prop) (s : Nat → Value) (w : World) (h : s12_p2 K (s 3) w) : Tr (s12_p2_den K s w) :=
  Go.Sh.R.tr_drawR (P := Tryz.prog) (ops := (ro (cd (Tryz.f12.body.getD .skip) [1, 1, 1, 1, 0]))) (ms := [0, 0, 2, 6, 14, 31, 63, 127, 255, 255, 511, 2047]) (cs := [1, 2, 3, 4]) (N := (fun s w => s12_p1 K (s 3) (s 8) (s 9) w)) (N' := (s12_p1_den K)) (s := s) (w := w) (p := fun J => s12_p2_d K J (s 3) (drw w) (drw w)) (q := s12_p2_den K s w) (by kernel_rfl) (by kernel_rfl) (fun s w h => s12_p1_ok K s w @h) (by kernel_rfl) (by kernel_rfl) @h
def s12_p3 (K : Value → World → Prop) (B1 : List Value → World → Prop) (t3 t4 t17 t18 t19 : Value) (w : World) : Prop :=
  boI .add t19 (.int .i64 1) (fun t50 w =>
  B1 [t3, t4, t17, t18, t50] w) w
def s12_p3_den (K : Value → World → Prop) (M1 : (Nat → Value) → World → Prop) : (Nat → Value) → World → Prop := denL Tryz.prog [(cd (Tryz.f12.body.getD .skip) [1, 1, 1, 0, 1, 0, 0, 1, 1, 1])] M1 (fun i => (bif Nat.beq i 0 then (s12_p2_den K) else (fun _ _ => False))) (s12_R K)
theorem s12_p3_ok (K : Value → World → Prop) (B1 : List Value → World → Prop) (s : Nat → Value) (w : World) (h : s12_p3 K B1 (s 3) (s 4) (s 17) (s 18) (s 19) w) : Tr (s12_p3_den K (fun s w => B1 [s 3, s 4, s 17, s 18, s 19] w) s w) :=
  tr_simple (P := Tryz.prog) (codes := [(cd (Tryz.f12.body.getD .skip) [1, 1, 1, 0, 1, 0, 0, 1, 1, 1])]) (N := (fun s w => B1 [s 3, s 4, s 17, s 18, s 19] w)) (N' := (fun s w => B1 [s 3, s 4, s 17, s 18, s 19] w)) (X := (fun i => (bif Nat.beq i 0 then (fun s w => s12_p2 K (s 3) w) else (fun _ _ => False)))) (X' := (fun i => (bif Nat.beq i 0 then (s12_p2_den K) else (fun _ _ => False)))) (R := s12_R K) (s := s) (w := w) (p := s12_p3 K B1 (s 3) (s 4) (s 17) (s 18) (s 19) w) (q := s12_p3_den K (fun s w => B1 [s 3, s 4, s 17, s 18, s 19] w) s w) tr_id (fun i => (tr_bif (fun s w h => s12_p2_ok K s w @h) tr_id)) (by kernel_rfl) (by kernel_rfl) @h
def s12_p4 (K : Value → World → Prop) (B1 : List Value → World → Prop) (t3 t4 t17 t18 t19 : Value) (w : World) : Prop :=
  boI .lss t19 t18 (fun t20 w =>
  ifb t20
  (ixs 4 t17 t19 (fun t21 w =>
  ldn 4 t21 (fun t22 w =>
  nw 39 #[(.int .i64 0), (.slice none 0 0), (.int .i64 0), (.int .i64 0)] (fun t6 w =>
  stn 4 t6 t22 (fun w =>
  ldn 4 t6 (fun t23 w =>
  cl Tryz.prog 22 #[t23] (fun t24 w =>
  un .not t24 (fun t25 w =>
  ifb t25
  (s12_p3 K B1 t3 t4 t17 t18 t19 w)
  (fd 1 t6 (fun t27 w =>
  ld1 t27 (fun t28 w =>
  cl Tryz.prog 24 #[t3, t28] (fun t29 w =>
  cl Tryz.prog 29 #[t29] (fun t31 w =>
  boI .neq t31 (.int .i64 17) (fun t32 w =>
  gd t32 true (fun K w => K t29 w) (fun t34 w =>
  gd t32 true (fun K w => K t4 w) (fun t35 w =>
  gd t32 true (fd 1 t6) (fun t36 w =>
  gd t32 true (ld1 t36) (fun t37 w =>
  gd t32 true (cl Tryz.prog 25 #[t35, t37]) (fun t38 w =>
  gd t32 true (cl Tryz.prog 23 #[t34, t38]) (fun t39 w =>
  gd t32 true (un .not t39) (fun t40 w =>
  pk t32 t40 (.bool false) (fun t41 w =>
  ifb t41
  (K (.bool false) w)
  (cl Tryz.prog 26 #[(.func (.func 24) #[t3] #[])] (fun t44 w =>
  cl Tryz.prog 26 #[(.func (.func 25) #[t4] #[])] (fun t47 w =>
  cl Tryz.prog 23 #[t44, t47] (fun t48 w =>
  un .not t48 (fun t49 w =>
  ifb t49
  (K (.bool false) w)
  (s12_p3 K B1 t3 t4 t17 t18 t19 w)) w) w) w) w)) w) w) w) w) w) w) w) w) w) w) w) w) w)) w) w) w) w) w) w) w)
  (s12_p2 K t3 w)) w
def s12_p4_den (K : Value → World → Prop) (M1 : (Nat → Value) → World → Prop) : (Nat → Value) → World → Prop := denL Tryz.prog [(cd (Tryz.f12.body.getD .skip) [1, 1, 1, 0, 1, 0, 0, 0]), (cd (Tryz.f12.body.getD .skip) [1, 1, 1, 0, 1, 0, 0, 1, 0]), (cd (Tryz.f12.body.getD .skip) [1, 1, 1, 0, 1, 0, 0, 1, 1, 0])] (s12_p3_den K M1) (fun i => (bif Nat.beq i 0 then (s12_p2_den K) else (fun _ _ => False))) (s12_R K)
theorem s12_p4_ok (K : Value → World → Prop) (B1 : List Value → World → Prop) (s : Nat → Value) (w : World) (h : s12_p4 K B1 (s 3) (s 4) (s 17) (s 18) (s 19) w) : Tr (s12_p4_den K (fun s w => B1 [s 3, s 4, s 17, s 18, s 19] w) s w) :=
  tr_simple (P := Tryz.prog) (codes := [(cd (Tryz.f12.body.getD .skip) [1, 1, 1, 0, 1, 0, 0, 0]), (cd (Tryz.f12.body.getD .skip) [1, 1, 1, 0, 1, 0, 0, 1, 0]), (cd (Tryz.f12.body.getD .skip) [1, 1, 1, 0, 1, 0, 0, 1, 1, 0])]) (N := (fun s w => s12_p3 K B1 (s 3) (s 4) (s 17) (s 18) (s 19) w)) (N' := (s12_p3_den K (fun s w => B1 [s 3, s 4, s 17, s 18, s 19] w))) (X := (fun i => (bif Nat.beq i 0 then (fun s w => s12_p2 K (s 3) w) else (fun _ _ => False)))) (X' := (fun i => (bif Nat.beq i 0 then (s12_p2_den K) else (fun _ _ => False)))) (R := s12_R K) (s := s) (w := w) (p := s12_p4 K B1 (s 3) (s 4) (s 17) (s 18) (s 19) w) (q := s12_p4_den K (fun s w => B1 [s 3, s 4, s 17, s 18, s 19] w) s w) (fun s w h => s12_p3_ok K B1 s w @h) (fun i => (tr_bif (fun s w h => s12_p2_ok K s w @h) tr_id)) (by kernel_rfl) (by kernel_rfl) @h
def s12_p5_F (K : Value → World → Prop) (B1 : List Value → World → Prop) (l : List Value) (w : World) : Prop :=
  match l with
  | [t3, t4, t17, t18, t19] => s12_p4 K B1 t3 t4 t17 t18 t19 w
  | _ => False
theorem s12_p5_Fe {K : Value → World → Prop} {B1 : List Value → World → Prop} {t3 t4 t17 t18 t19 : Value} {w : World} : s12_p5_F K B1 [t3, t4, t17, t18, t19] w = s12_p4 K B1 t3 t4 t17 t18 t19 w := by kernel_rfl
def s12_p5 (K : Value → World → Prop) (t3 t4 t17 t18 t19 : Value) (w : World) : Prop :=
  LoopL (s12_p5_F K) [t3, t4, t17, t18, t19] w
def s12_p5_den (K : Value → World → Prop) : (Nat → Value) → World → Prop := fun s w => LoopP (fun M1 s w => s12_p4_den K M1 s w) s w
theorem s12_p5_ok (K : Value → World → Prop) (s : Nat → Value) (w : World) (h : s12_p5 K (s 3) (s 4) (s 17) (s 18) (s 19) w) : Tr (s12_p5_den K s w) :=
  tr_loop (G := fun N' s w => s12_p4_den K N' s w) (F := s12_p5_F K) (sel := fun s => [s 3, s 4, s 17, s 18, s 19]) (s := s) (w := w) (p := s12_p5 K (s 3) (s 4) (s 17) (s 18) (s 19) w) (q := s12_p5_den K s w) (fun B s w h => s12_p4_ok K B s w @h) (by kernel_rfl) (by kernel_rfl) @h
def s12_p6 (K : Value → World → Prop) (t0 : Value) (w : World) : Prop :=
  cl Tryz.prog 17 #[t0] (fun t11 w =>
  un .not t11 (fun t12 w =>
  ifb t12
  (K (.bool true) w)
  (bdq [(.int .i64 0), (.int .i64 0), (.int .i64 0)] [(some (0, 1), (.int .i64 20)), (some (1, 1), (.int .i64 70)), (some (2, 1), (.int .i64 60))] (fun t13 w =>
  cl Tryz.prog 18 #[t13] (fun t14 w =>
  cl Tryz.prog 21 #[] (fun t15 w =>
  cl Tryz.prog 20 #[t15] (fun t16 w =>
  lnS t0 (fun t18 w =>
  s12_p5 K t14 t16 t0 t18 (.int .i64 0) w) w) w) w) w) w)) w) w
def s12_p6_den (K : Value → World → Prop) : (Nat → Value) → World → Prop := denL Tryz.prog [(cd (Tryz.f12.body.getD .skip) [0]), (cd (Tryz.f12.body.getD .skip) [1, 0, 0]), (cd (Tryz.f12.body.getD .skip) [1, 0, 1]), (cd (Tryz.f12.body.getD .skip) [1, 1, 0]), (cd (Tryz.f12.body.getD .skip) [1, 1, 1, 0, 0])] (s12_p5_den K) (fun i => (fun _ _ => False)) (s12_R K)
theorem s12_p6_ok (K : Value → World → Prop) (s : Nat → Value) (w : World) (h : s12_p6 K (s 0) w) : Tr (s12_p6_den K s w) :=
  tr_simple (P := Tryz.prog) (codes := [(cd (Tryz.f12.body.getD .skip) [0]), (cd (Tryz.f12.body.getD .skip) [1, 0, 0]), (cd (Tryz.f12.body.getD .skip) [1, 0, 1]), (cd (Tryz.f12.body.getD .skip) [1, 1, 0]), (cd (Tryz.f12.body.getD .skip) [1, 1, 1, 0, 0])]) (N := (fun s w => s12_p5 K (s 3) (s 4) (s 17) (s 18) (s 19) w)) (N' := (s12_p5_den K)) (X := (fun i => (fun _ _ => False))) (X' := (fun i => (fun _ _ => False))) (R := s12_R K) (s := s) (w := w) (p := s12_p6 K (s 0) w) (q := s12_p6_den K s w) (fun s w h => s12_p5_ok K s w @h) (fun i => tr_id) (by kernel_rfl) (by kernel_rfl) @h
/-- the call, from the text -/
theorem c12 (t0 : Value) {K : Value → World → Prop} {w : World} (h : s12_p6 K t0 w) : cl Tryz.prog 12 #[t0] K w :=
  calls_of_tr (c := (Tryz.f12.body.getD .skip)) (fn := Tryz.f12) (q := s12_p6_den K (st0 #[t0]) w) Tryz.func12 (by kernel_rfl) (by kernel_rfl) (Nat.le_of_ble_eq_true (by kernel_rfl)) (by kernel_rfl) (by kernel_rfl) (s12_p6_ok K (st0 #[t0]) w @h)

end Go.Proofs.Qxb6500896aGreat
