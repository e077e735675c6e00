import Derived.Test.Qxb6500896aGreatProg
import Derived.Test.Qxb6500896aGreatShMix3
namespace Go.Proofs.Qxb6500896aGreat
open Go.Sh Go.RowKit
set_option linter.unusedVariables false
set_option maxRecDepth 100000

/-! ### function 52 : e2e.engine.NewConn -/
def s52_R (K : Value → World → Prop) (s : Nat → Value) (w : World) : Prop := retv Tryz.prog s Tryz.f52.results.toList (fun vs => K (pack vs) w) w
def s52_p1 (K : Value → World → Prop) (t0 : Value) (w : World) : Prop :=
  bdq [(.pointer none), (.slice none 0 0), (.int .i64 0), (.bool false)] [(some (0, 1), t0)] (fun t4 w =>
  nw 174 (t4).cells (fun t5 w =>
  K t5 w) w) w
def s52_p1_den (K : Value → World → Prop) : (Nat → Value) → World → Prop := denL Tryz.prog [(cd (Tryz.f52.body.getD .skip) [0]), (cd (Tryz.f52.body.getD .skip) [1, 0]), (cd (Tryz.f52.body.getD .skip) [1, 1])] (fun _ _ => False) (fun i => (fun _ _ => False)) (s52_R K)
theorem s52_p1_ok (K : Value → World → Prop) (s : Nat → Value) (w : World) (h : s52_p1 K (s 0) w) : Tr (s52_p1_den K s w) :=
  tr_simple (P := Tryz.prog) (codes := [(cd (Tryz.f52.body.getD .skip) [0]), (cd (Tryz.f52.body.getD .skip) [1, 0]), (cd (Tryz.f52.body.getD .skip) [1, 1])]) (N := (fun _ _ => False)) (N' := (fun _ _ => False)) (X := (fun i => (fun _ _ => False))) (X' := (fun i => (fun _ _ => False))) (R := s52_R K) (s := s) (w := w) (p := s52_p1 K (s 0) w) (q := s52_p1_den K s w) tr_id (fun i => tr_id) (by kernel_rfl) (by kernel_rfl) @h
/-- the call, from the text -/
theorem c52 (t0 : Value) {K : Value → World → Prop} {w : World} (h : s52_p1 K t0 w) : cl Tryz.prog 52 #[t0] K w :=
  calls_of_tr (c := (Tryz.f52.body.getD .skip)) (fn := Tryz.f52) (q := s52_p1_den K (st0 #[t0]) w) Tryz.func52 (by kernel_rfl) (by kernel_rfl) (Nat.le_of_ble_eq_true (by kernel_rfl)) (by kernel_rfl) (by kernel_rfl) (s52_p1_ok K (st0 #[t0]) w @h)

/-! ### function 53 : e2e.engine.AppendFrame -/
def s53_R (K : Value → World → Prop) (s : Nat → Value) (w : World) : Prop := retv Tryz.prog s Tryz.f53.results.toList (fun vs => K (pack vs) w) w
def s53_p1 (K : Value → World → Prop) (t0 t1 : Value) (w : World) : Prop :=
  lnS t1 (fun t7 w =>
  cl Tryz.prog 136 #[t0, t7] (fun t8 w =>
  apq 5 [(.int .u8 0)] 1 t8 t1 (fun t11 w =>
  K t11 w) w) w) w
def s53_p1_den (K : Value → World → Prop) : (Nat → Value) → World → Prop := denL Tryz.prog [(cd (Tryz.f53.body.getD .skip) [0]), (cd (Tryz.f53.body.getD .skip) [1, 0]), (cd (Tryz.f53.body.getD .skip) [1, 1, 0]), (cd (Tryz.f53.body.getD .skip) [1, 1, 1])] (fun _ _ => False) (fun i => (fun _ _ => False)) (s53_R K)
theorem s53_p1_ok (K : Value → World → Prop) (s : Nat → Value) (w : World) (h : s53_p1 K (s 0) (s 1) w) : Tr (s53_p1_den K s w) :=
  tr_simple (P := Tryz.prog) (codes := [(cd (Tryz.f53.body.getD .skip) [0]), (cd (Tryz.f53.body.getD .skip) [1, 0]), (cd (Tryz.f53.body.getD .skip) [1, 1, 0]), (cd (Tryz.f53.body.getD .skip) [1, 1, 1])]) (N := (fun _ _ => False)) (N' := (fun _ _ => False)) (X := (fun i => (fun _ _ => False))) (X' := (fun i => (fun _ _ => False))) (R := s53_R K) (s := s) (w := w) (p := s53_p1 K (s 0) (s 1) w) (q := s53_p1_den K s w) tr_id (fun i => tr_id) (by kernel_rfl) (by kernel_rfl) @h
/-- the call, from the text -/
theorem c53 (t0 t1 : Value) {K : Value → World → Prop} {w : World} (h : s53_p1 K t0 t1 w) : cl Tryz.prog 53 #[t0, t1] K w :=
  calls_of_tr (c := (Tryz.f53.body.getD .skip)) (fn := Tryz.f53) (q := s53_p1_den K (st0 #[t0, t1]) w) Tryz.func53 (by kernel_rfl) (by kernel_rfl) (Nat.le_of_ble_eq_true (by kernel_rfl)) (by kernel_rfl) (by kernel_rfl) (s53_p1_ok K (st0 #[t0, t1]) w @h)

/-! ### function 54 : (*e2e.engine.Conn).Feed -/
def s54_R (K : Value → World → Prop) (s : Nat → Value) (w : World) : Prop := retv Tryz.prog s Tryz.f54.results.toList (fun vs => K (pack vs) w) w
def s54_p1 (K : Value → World → Prop) (t7 : Value) (w : World) : Prop :=
  K t7 w
def s54_p1_den (K : Value → World → Prop) : (Nat → Value) → World → Prop := denL Tryz.prog [(cd (Tryz.f54.body.getD .skip) [1, 1, 1, 1, 1, 1, 1, 0]), (cd (Tryz.f54.body.getD .skip) [1, 1, 1, 1, 1, 1, 1, 1])] (fun _ _ => False) (fun i => (fun _ _ => False)) (s54_R K)
theorem s54_p1_ok (K : Value → World → Prop) (s : Nat → Value) (w : World) (h : s54_p1 K (s 7) w) : Tr (s54_p1_den K s w) :=
  tr_simple (P := Tryz.prog) (codes := [(cd (Tryz.f54.body.getD .skip) [1, 1, 1, 1, 1, 1, 1, 0]), (cd (Tryz.f54.body.getD .skip) [1, 1, 1, 1, 1, 1, 1, 1])]) (N := (fun _ _ => False)) (N' := (fun _ _ => False)) (X := (fun i => (fun _ _ => False))) (X' := (fun i => (fun _ _ => False))) (R := s54_R K) (s := s) (w := w) (p := s54_p1 K (s 7) w) (q := s54_p1_den K s w) tr_id (fun i => tr_id) (by kernel_rfl) (by kernel_rfl) @h
def s54_p2_d (K : Value → World → Prop) (t0 t6 t7 : Value) (w0 w : World) : Prop :=
  nck t0 (fun t45 _ =>
  fd 1 t45 (fun t46 _ =>
  ld1 t46 (fun t47 _ =>
  sls 1 t47 none (some (.int .i64 0)) (fun t48 _ =>
  nck t0 (fun t50 _ =>
  fd 1 t50 (fun t51 _ =>
  ld1 t51 (fun t52 _ =>
  sls 1 t52 (some t6) none (fun t54 _ =>
  nck t0 (fun t56 _ =>
  fd 1 t56 (fun t57 _ =>
  apq 5 [(.int .u8 0)] 1 t48 t54 (fun t55 w =>
  st1 t57 t55 (fun w =>
  s54_p1 K t7 w) w) w) w0) w0) w0) w0) w0) w0) w0) w0) w0) w0
def s54_p2 (K : Value → World → Prop) (t0 t6 t7 : Value) (w : World) : Prop := s54_p2_d K t0 t6 t7 (drw w) (drw w)
def s54_p2_den (K : Value → World → Prop) : (Nat → Value) → World → Prop := denL Tryz.prog [(cd (Tryz.f54.body.getD .skip) [1, 1, 1, 1, 1, 1, 0])] (s54_p1_den K) (fun i => (fun _ _ => False)) (s54_R K)
theorem s54_p2_ok (K : Value → World → Prop) (s : Nat → Value) (w : World) (h : s54_p2 K (s 0) (s 6) (s 7) w) : Tr (s54_p2_den K s w) :=
  tr_draw (P := Tryz.prog) (ops := (ro (cd (Tryz.f54.body.getD .skip) [1, 1, 1, 1, 1, 1, 0]))) (ms := [0, 0, 2, 6, 14, 30, 0, 64, 192, 448, 0, 1984, 4094, 8191, 16383, 32767]) (cs := [0, 1, 2, 3, 4, 5, 6, 7, 8, 9, 10, 11, 13, 14]) (N := (fun s w => s54_p1 K (s 7) w)) (N' := (s54_p1_den K)) (s := s) (w := w) (p := s54_p2 K (s 0) (s 6) (s 7) w) (q := s54_p2_den K s w) (by kernel_rfl) (by kernel_rfl) (fun s w h => s54_p1_ok K s w @h) (by kernel_rfl) (by kernel_rfl) @h
def s54_p3 (K : Value → World → Prop) (B1 : List Value → World → Prop) (t0 t6 t7 t33 t34 t35 : Value) (w : World) : Prop :=
  boI .lss t35 t34 (fun t36 w =>
  ifb t36
  (ixs 1 t33 t35 (fun t37 w =>
  ld1 t37 (fun t38 w =>
  cl Tryz.prog 53 #[t7, t38] (fun t41 w =>
  boI .add t35 (.int .i64 1) (fun t42 w =>
  B1 [t0, t6, t41, t33, t34, t42] w) w) w) w) w)
  (s54_p2 K t0 t6 t7 w)) w
def s54_p3_den (K : Value → World → Prop) (M1 : (Nat → Value) → World → Prop) : (Nat → Value) → World → Prop := denL Tryz.prog [(cd (Tryz.f54.body.getD .skip) [1, 1, 1, 1, 1, 0, 1, 0, 0, 0]), (cd (Tryz.f54.body.getD .skip) [1, 1, 1, 1, 1, 0, 1, 0, 0, 1, 0]), (cd (Tryz.f54.body.getD .skip) [1, 1, 1, 1, 1, 0, 1, 0, 0, 1, 1, 0]), (cd (Tryz.f54.body.getD .skip) [1, 1, 1, 1, 1, 0, 1, 0, 0, 1, 1, 1])] M1 (fun i => (bif Nat.beq i 0 then (s54_p2_den K) else (fun _ _ => False))) (s54_R K)
theorem s54_p3_ok (K : Value → World → Prop) (B1 : List Value → World → Prop) (s : Nat → Value) (w : World) (h : s54_p3 K B1 (s 0) (s 6) (s 7) (s 33) (s 34) (s 35) w) : Tr (s54_p3_den K (fun s w => B1 [s 0, s 6, s 7, s 33, s 34, s 35] w) s w) :=
  tr_simple (P := Tryz.prog) (codes := [(cd (Tryz.f54.body.getD .skip) [1, 1, 1, 1, 1, 0, 1, 0, 0, 0]), (cd (Tryz.f54.body.getD .skip) [1, 1, 1, 1, 1, 0, 1, 0, 0, 1, 0]), (cd (Tryz.f54.body.getD .skip) [1, 1, 1, 1, 1, 0, 1, 0, 0, 1, 1, 0]), (cd (Tryz.f54.body.getD .skip) [1, 1, 1, 1, 1, 0, 1, 0, 0, 1, 1, 1])]) (N := (fun s w => B1 [s 0, s 6, s 7, s 33, s 34, s 35] w)) (N' := (fun s w => B1 [s 0, s 6, s 7, s 33, s 34, s 35] w)) (X := (fun i => (bif Nat.beq i 0 then (fun s w => s54_p2 K (s 0) (s 6) (s 7) w) else (fun _ _ => False)))) (X' := (fun i => (bif Nat.beq i 0 then (s54_p2_den K) else (fun _ _ => False)))) (R := s54_R K) (s := s) (w := w) (p := s54_p3 K B1 (s 0) (s 6) (s 7) (s 33) (s 34) (s 35) w) (q := s54_p3_den K (fun s w => B1 [s 0, s 6, s 7, s 33, s 34, s 35] w) s w) tr_id (fun i => (tr_bif (fun s w h => s54_p2_ok K s w @h) tr_id)) (by kernel_rfl) (by kernel_rfl) @h
def s54_p4_F (K : Value → World → Prop) (B1 : List Value → World → Prop) (l : List Value) (w : World) : Prop :=
  match l with
  | [t0, t6, t7, t33, t34, t35] => s54_p3 K B1 t0 t6 t7 t33 t34 t35 w
  | _ => False
theorem s54_p4_Fe {K : Value → World → Prop} {B1 : List Value → World → Prop} {t0 t6 t7 t33 t34 t35 : Value} {w : World} : s54_p4_F K B1 [t0, t6, t7, t33, t34, t35] w = s54_p3 K B1 t0 t6 t7 t33 t34 t35 w := by kernel_rfl
def s54_p4 (K : Value → World → Prop) (t0 t6 t7 t33 t34 t35 : Value) (w : World) : Prop :=
  LoopL (s54_p4_F K) [t0, t6, t7, t33, t34, t35] w
def s54_p4_den (K : Value → World → Prop) : (Nat → Value) → World → Prop := fun s w => LoopP (fun M1 s w => s54_p3_den K M1 s w) s w
theorem s54_p4_ok (K : Value → World → Prop) (s : Nat → Value) (w : World) (h : s54_p4 K (s 0) (s 6) (s 7) (s 33) (s 34) (s 35) w) : Tr (s54_p4_den K s w) :=
  tr_loop (G := fun N' s w => s54_p3_den K N' s w) (F := s54_p4_F K) (sel := fun s => [s 0, s 6, s 7, s 33, s 34, s 35]) (s := s) (w := w) (p := s54_p4 K (s 0) (s 6) (s 7) (s 33) (s 34) (s 35) w) (q := s54_p4_den K s w) (fun B s w h => s54_p3_ok K B s w @h) (by kernel_rfl) (by kernel_rfl) @h
def s54_p5 (K : Value → World → Prop) (t0 t1 : Value) (w : World) : Prop :=
  nck t0 (fun t11 w =>
  fd 3 t11 (fun t12 w =>
  ld1 t12 (fun t13 w =>
  ifb t13
  (K (.slice none 0 0) w)
  (nck t0 (fun t16 w =>
  fd 1 t16 (fun t17 w =>
  ld1 t17 (fun t18 w =>
  apq 5 [(.int .u8 0)] 1 t18 t1 (fun t20 w =>
  nck t0 (fun t21 w =>
  fd 1 t21 (fun t22 w =>
  st1 t22 t20 (fun w =>
  cl Tryz.prog 137 #[t0] (fun t25 w =>
  exq t25 0 (fun t26 w =>
  exq t25 1 (fun t27 w =>
  nck t0 (fun t29 w =>
  fd 0 t29 (fun t30 w =>
  ld1 t30 (fun t31 w =>
  cl Tryz.prog 118 #[t31, t26] (fun t33 w =>
  lnS t33 (fun t34 w =>
  s54_p4 K t0 t27 (.slice none 0 0) t33 t34 (.int .i64 0) w) w) w) w) w) w) w) w) w) w) w) w) w) w) w) w)) w) w) w
def s54_p5_den (K : Value → World → Prop) : (Nat → Value) → World → Prop := denL Tryz.prog [(cd (Tryz.f54.body.getD .skip) [0]), (cd (Tryz.f54.body.getD .skip) [1, 0, 0]), (cd (Tryz.f54.body.getD .skip) [1, 0, 1]), (cd (Tryz.f54.body.getD .skip) [1, 1, 0]), (cd (Tryz.f54.body.getD .skip) [1, 1, 1, 0]), (cd (Tryz.f54.body.getD .skip) [1, 1, 1, 1, 0]), (cd (Tryz.f54.body.getD .skip) [1, 1, 1, 1, 1, 0, 0])] (s54_p4_den K) (fun i => (fun _ _ => False)) (s54_R K)
theorem s54_p5_ok (K : Value → World → Prop) (s : Nat → Value) (w : World) (h : s54_p5 K (s 0) (s 1) w) : Tr (s54_p5_den K s w) :=
  tr_simple (P := Tryz.prog) (codes := [(cd (Tryz.f54.body.getD .skip) [0]), (cd (Tryz.f54.body.getD .skip) [1, 0, 0]), (cd (Tryz.f54.body.getD .skip) [1, 0, 1]), (cd (Tryz.f54.body.getD .skip) [1, 1, 0]), (cd (Tryz.f54.body.getD .skip) [1, 1, 1, 0]), (cd (Tryz.f54.body.getD .skip) [1, 1, 1, 1, 0]), (cd (Tryz.f54.body.getD .skip) [1, 1, 1, 1, 1, 0, 0])]) (N := (fun s w => s54_p4 K (s 0) (s 6) (s 7) (s 33) (s 34) (s 35) w)) (N' := (s54_p4_den K)) (X := (fun i => (fun _ _ => False))) (X' := (fun i => (fun _ _ => False))) (R := s54_R K) (s := s) (w := w) (p := s54_p5 K (s 0) (s 1) w) (q := s54_p5_den K s w) (fun s w h => s54_p4_ok K s w @h) (fun i => tr_id) (by kernel_rfl) (by kernel_rfl) @h
/-- the call, from the text -/
theorem c54 (t0 t1 : Value) {K : Value → World → Prop} {w : World} (h : s54_p5 K t0 t1 w) : cl Tryz.prog 54 #[t0, t1] K w :=
  calls_of_tr (c := (Tryz.f54.body.getD .skip)) (fn := Tryz.f54) (q := s54_p5_den K (st0 #[t0, t1]) w) Tryz.func54 (by kernel_rfl) (by kernel_rfl) (Nat.le_of_ble_eq_true (by kernel_rfl)) (by kernel_rfl) (by kernel_rfl) (s54_p5_ok K (st0 #[t0, t1]) w @h)

/-! ### function 55 : (*e2e.engine.Conn).Pending -/
def s55_R (K : Value → World → Prop) (s : Nat → Value) (w : World) : Prop := retv Tryz.prog s Tryz.f55.results.toList (fun vs => K (pack vs) w) w
def s55_p1 (K : Value → World → Prop) (t0 : Value) (w : World) : Prop :=
  nck t0 (fun t4 w =>
  fd 1 t4 (fun t5 w =>
  ld1 t5 (fun t6 w =>
  lnS t6 (fun t7 w =>
  K t7 w) w) w) w) w
def s55_p1_den (K : Value → World → Prop) : (Nat → Value) → World → Prop := denL Tryz.prog [(cd (Tryz.f55.body.getD .skip) [0]), (cd (Tryz.f55.body.getD .skip) [1, 0]), (cd (Tryz.f55.body.getD .skip) [1, 1])] (fun _ _ => False) (fun i => (fun _ _ => False)) (s55_R K)
theorem s55_p1_ok (K : Value → World → Prop) (s : Nat → Value) (w : World) (h : s55_p1 K (s 0) w) : Tr (s55_p1_den K s w) :=
  tr_simple (P := Tryz.prog) (codes := [(cd (Tryz.f55.body.getD .skip) [0]), (cd (Tryz.f55.body.getD .skip) [1, 0]), (cd (Tryz.f55.body.getD .skip) [1, 1])]) (N := (fun _ _ => False)) (N' := (fun _ _ => False)) (X := (fun i => (fun _ _ => False))) (X' := (fun i => (fun _ _ => False))) (R := s55_R K) (s := s) (w := w) (p := s55_p1 K (s 0) w) (q := s55_p1_den K s w) tr_id (fun i => tr_id) (by kernel_rfl) (by kernel_rfl) @h
/-- the call, from the text -/
theorem c55 (t0 : Value) {K : Value → World → Prop} {w : World} (h : s55_p1 K t0 w) : cl Tryz.prog 55 #[t0] K w :=
  calls_of_tr (c := (Tryz.f55.body.getD .skip)) (fn := Tryz.f55) (q := s55_p1_den K (st0 #[t0]) w) Tryz.func55 (by kernel_rfl) (by kernel_rfl) (Nat.le_of_ble_eq_true (by kernel_rfl)) (by kernel_rfl) (by kernel_rfl) (s55_p1_ok K (st0 #[t0]) w @h)

/-! ### function 137 : (*e2e.engine.Conn).split -/
def s137_R (K : Value → World → Prop) (s : Nat → Value) (w : World) : Prop := retv Tryz.prog s Tryz.f137.results.toList (fun vs => K (pack vs) w) w
def s137_p1 (K : Value → World → Prop) (B1 : List Value → World → Prop) (t2 t4 : Value) (w : World) : Prop :=
  K (.tuple #[t2, t4]) w
def s137_p1_den (K : Value → World → Prop) (M1 : (Nat → Value) → World → Prop) : (Nat → Value) → World → Prop := denL Tryz.prog [(cd (Tryz.f137.body.getD .skip) [1, 1, 0, 0, 0, 1, 1, 0, 1, 0, 0]), (cd (Tryz.f137.body.getD .skip) [1, 1, 0, 0, 0, 1, 1, 0, 1, 0, 1])] (fun _ _ => False) (fun i => (bif Nat.beq i 2 then M1 else (bif Nat.beq i 1 then M1 else (bif Nat.beq i 0 then (s137_R K) else (fun _ _ => False))))) (s137_R K)
theorem s137_p1_ok (K : Value → World → Prop) (B1 : List Value → World → Prop) (s : Nat → Value) (w : World) (h : s137_p1 K B1 (s 2) (s 4) w) : Tr (s137_p1_den K (fun s w => B1 [s 0, s 2, s 4] w) s w) :=
  tr_simple (P := Tryz.prog) (codes := [(cd (Tryz.f137.body.getD .skip) [1, 1, 0, 0, 0, 1, 1, 0, 1, 0, 0]), (cd (Tryz.f137.body.getD .skip) [1, 1, 0, 0, 0, 1, 1, 0, 1, 0, 1])]) (N := (fun _ _ => False)) (N' := (fun _ _ => False)) (X := (fun i => (bif Nat.beq i 2 then (fun s w => B1 [s 0, s 2, s 4] w) else (bif Nat.beq i 1 then (fun s w => B1 [s 0, s 2, s 4] w) else (bif Nat.beq i 0 then (s137_R K) else (fun _ _ => False)))))) (X' := (fun i => (bif Nat.beq i 2 then (fun s w => B1 [s 0, s 2, s 4] w) else (bif Nat.beq i 1 then (fun s w => B1 [s 0, s 2, s 4] w) else (bif Nat.beq i 0 then (s137_R K) else (fun _ _ => False)))))) (R := s137_R K) (s := s) (w := w) (p := s137_p1 K B1 (s 2) (s 4) w) (q := s137_p1_den K (fun s w => B1 [s 0, s 2, s 4] w) s w) tr_id (fun i => (tr_bif tr_id (tr_bif tr_id (tr_bif tr_id tr_id)))) (by kernel_rfl) (by kernel_rfl) @h
def s137_p2 (K : Value → World → Prop) (B1 : List Value → World → Prop) (t2 t3 : Value) (w : World) : Prop :=
  K (.tuple #[t2, t3]) w
def s137_p2_den (K : Value → World → Prop) (M1 : (Nat → Value) → World → Prop) : (Nat → Value) → World → Prop := denL Tryz.prog [(cd (Tryz.f137.body.getD .skip) [1, 1, 0, 0, 0, 1, 1, 0, 1, 1, 1, 0, 1, 1])] (fun _ _ => False) (fun i => (bif Nat.beq i 2 then M1 else (bif Nat.beq i 1 then M1 else (bif Nat.beq i 0 then (s137_R K) else (fun _ _ => False))))) (s137_R K)
theorem s137_p2_ok (K : Value → World → Prop) (B1 : List Value → World → Prop) (s : Nat → Value) (w : World) (h : s137_p2 K B1 (s 2) (s 3) w) : Tr (s137_p2_den K (fun s w => B1 [s 0, s 2, s 4] w) s w) :=
  tr_simple (P := Tryz.prog) (codes := [(cd (Tryz.f137.body.getD .skip) [1, 1, 0, 0, 0, 1, 1, 0, 1, 1, 1, 0, 1, 1])]) (N := (fun _ _ => False)) (N' := (fun _ _ => False)) (X := (fun i => (bif Nat.beq i 2 then (fun s w => B1 [s 0, s 2, s 4] w) else (bif Nat.beq i 1 then (fun s w => B1 [s 0, s 2, s 4] w) else (bif Nat.beq i 0 then (s137_R K) else (fun _ _ => False)))))) (X' := (fun i => (bif Nat.beq i 2 then (fun s w => B1 [s 0, s 2, s 4] w) else (bif Nat.beq i 1 then (fun s w => B1 [s 0, s 2, s 4] w) else (bif Nat.beq i 0 then (s137_R K) else (fun _ _ => False)))))) (R := s137_R K) (s := s) (w := w) (p := s137_p2 K B1 (s 2) (s 3) w) (q := s137_p2_den K (fun s w => B1 [s 0, s 2, s 4] w) s w) tr_id (fun i => (tr_bif tr_id (tr_bif tr_id (tr_bif tr_id tr_id)))) (by kernel_rfl) (by kernel_rfl) @h
def s137_p3_d (K : Value → World → Prop) (B1 : List Value → World → Prop) (J : World → Prop) (t0 t2 : Value) (w0 w : World) : Prop :=
  nck t0 (fun t96 _ =>
  fd 1 t96 (fun t97 _ =>
  Go.Sh.R.qw J (ld1 t97) (fun t98 =>
  lnS t98 (fun t99 _ =>
  (J w ∧
  bsq 37 [(.slice none 0 0)] 1 [(some (0, 1), (.slice none 0 0))] (fun t93 w =>
  J w ∧
  apq 37 [(.slice none 0 0)] 24 t2 t93 (fun t94 w =>
  J w ∧
  J w ∧
  s137_p2 K B1 t94 t99 w) w) w) ∧
  (bsq 37 [(.slice none 0 0)] 1 [(some (0, 1), (.slice none 0 0))] (fun t93_2 w =>
  J w ∧
  J w ∧
  apq 37 [(.slice none 0 0)] 24 t2 t93_2 (fun t94_2 w =>
  J w ∧
  J w ∧
  s137_p2 K B1 t94_2 t99 w) w) w)) w0)) w0) w0
def s137_p3 (K : Value → World → Prop) (B1 : List Value → World → Prop) (t0 t2 : Value) (w : World) : Prop := ∃ J : World → Prop, J (drw w) ∧ s137_p3_d K B1 J t0 t2 (drw w) (drw w)
def s137_p3_den (K : Value → World → Prop) (M1 : (Nat → Value) → World → Prop) : (Nat → Value) → World → Prop := denL Tryz.prog [(cd (Tryz.f137.body.getD .skip) [1, 1, 0, 0, 0, 1, 1, 0, 1, 1, 1, 0, 1, 0])] (s137_p2_den K M1) (fun i => (bif Nat.beq i 2 then M1 else (bif Nat.beq i 1 then M1 else (bif Nat.beq i 0 then (s137_R K) else (fun _ _ => False))))) (s137_R K)
theorem s137_p3_ok (K : Value → World → Prop) (B1 : List Value → World → Prop) (s : Nat → Value) (w : World) (h : s137_p3 K B1 (s 0) (s 2) w) : Tr (s137_p3_den K (fun s w => B1 [s 0, s 2, s 4] w) s w) :=
  Go.Sh.R.tr_drawR (P := Tryz.prog) (ops := (ro (cd (Tryz.f137.body.getD .skip) [1, 1, 0, 0, 0, 1, 1, 0, 1, 1, 1, 0, 1, 0]))) (ms := [0, 0, 3, 0, 8, 24, 56, 120, 7, 511]) (cs := [3, 4, 5, 6, 7, 9]) (N := (fun s w => s137_p2 K B1 (s 2) (s 3) w)) (N' := (s137_p2_den K (fun s w => B1 [s 0, s 2, s 4] w))) (s := s) (w := w) (p := fun J => s137_p3_d K B1 J (s 0) (s 2) (drw w) (drw w)) (q := s137_p3_den K (fun s w => B1 [s 0, s 2, s 4] w) s w) (by kernel_rfl) (by kernel_rfl) (fun s w h => s137_p2_ok K B1 s w @h) (by kernel_rfl) (by kernel_rfl) @h
def s137_p4 (K : Value → World → Prop) (B1 : List Value → World → Prop) (t0 t2 : Value) (w : World) : Prop :=
  nck t0 (fun t90 w =>
  fd 3 t90 (fun t91 w =>
  st1 t91 (.bool true) (fun w =>
  s137_p3 K B1 t0 t2 w) w) w) w
def s137_p4_den (K : Value → World → Prop) (M1 : (Nat → Value) → World → Prop) : (Nat → Value) → World → Prop := denL Tryz.prog [(cd (Tryz.f137.body.getD .skip) [1, 1, 0, 0, 0, 1, 1, 0, 1, 1, 1, 0, 0])] (s137_p3_den K M1) (fun i => (bif Nat.beq i 2 then M1 else (bif Nat.beq i 1 then M1 else (bif Nat.beq i 0 then (s137_R K) else (fun _ _ => False))))) (s137_R K)
theorem s137_p4_ok (K : Value → World → Prop) (B1 : List Value → World → Prop) (s : Nat → Value) (w : World) (h : s137_p4 K B1 (s 0) (s 2) w) : Tr (s137_p4_den K (fun s w => B1 [s 0, s 2, s 4] w) s w) :=
  tr_simple (P := Tryz.prog) (codes := [(cd (Tryz.f137.body.getD .skip) [1, 1, 0, 0, 0, 1, 1, 0, 1, 1, 1, 0, 0])]) (N := (fun s w => s137_p3 K B1 (s 0) (s 2) w)) (N' := (s137_p3_den K (fun s w => B1 [s 0, s 2, s 4] w))) (X := (fun i => (bif Nat.beq i 2 then (fun s w => B1 [s 0, s 2, s 4] w) else (bif Nat.beq i 1 then (fun s w => B1 [s 0, s 2, s 4] w) else (bif Nat.beq i 0 then (s137_R K) else (fun _ _ => False)))))) (X' := (fun i => (bif Nat.beq i 2 then (fun s w => B1 [s 0, s 2, s 4] w) else (bif Nat.beq i 1 then (fun s w => B1 [s 0, s 2, s 4] w) else (bif Nat.beq i 0 then (s137_R K) else (fun _ _ => False)))))) (R := s137_R K) (s := s) (w := w) (p := s137_p4 K B1 (s 0) (s 2) w) (q := s137_p4_den K (fun s w => B1 [s 0, s 2, s 4] w) s w) (fun s w h => s137_p3_ok K B1 s w @h) (fun i => (tr_bif tr_id (tr_bif tr_id (tr_bif tr_id tr_id)))) (by kernel_rfl) (by kernel_rfl) @h
def s137_p5 (K : Value → World → Prop) (B1 : List Value → World → Prop) (t0 t2 t4 t6 t7 : Value) (w : World) : Prop :=
  boI .gtr t6 (.int .i64 172) (fun t102 w =>
  ifb t102
  (boI .add t4 t7 (fun t105 w =>
  nck t0 (fun t108 w =>
  fd 2 t108 (fun t109 w =>
  st1 t109 t6 (fun w =>
  B1 [t0, t2, t105] w) w) w) w) w)
  (nck t0 (fun t113 w =>
  fd 1 t113 (fun t114 w =>
  ld1 t114 (fun t115 w =>
  lnS t115 (fun t116 w =>
  boI .sub t116 t4 (fun t118 w =>
  boI .sub t118 t7 (fun t120 w =>
  boI .gtr t6 t120 (fun t121 w =>
  ifb t121
  (K (.tuple #[t2, t4]) w)
  (boI .add t4 t7 (fun t65 w =>
  nck t0 (fun t68 w =>
  fd 1 t68 (fun t69 w =>
  ld1 t69 (fun t70 w =>
  boI .add t65 t6 (fun t74 w =>
  sls 1 t70 (some t65) (some t74) (fun t75 w =>
  bsq 37 [(.slice none 0 0)] 1 [(some (0, 1), t75)] (fun t76 w =>
  apq 37 [(.slice none 0 0)] 24 t2 t76 (fun t77 w =>
  boI .add t65 t6 (fun t80 w =>
  B1 [t0, t77, t80] w) w) w) w) w) w) w) w) w) w)) w) w) w) w) w) w) w)) w
def s137_p5_den (K : Value → World → Prop) (M1 : (Nat → Value) → World → Prop) : (Nat → Value) → World → Prop := denL Tryz.prog [(cd (Tryz.f137.body.getD .skip) [1, 1, 0, 0, 0, 1, 1, 0, 1, 1, 1, 1, 0]), (cd (Tryz.f137.body.getD .skip) [1, 1, 0, 0, 0, 1, 1, 0, 1, 1, 1, 1, 1])] M1 (fun i => (bif Nat.beq i 2 then M1 else (bif Nat.beq i 1 then M1 else (bif Nat.beq i 0 then (s137_R K) else (fun _ _ => False))))) (s137_R K)
theorem s137_p5_ok (K : Value → World → Prop) (B1 : List Value → World → Prop) (s : Nat → Value) (w : World) (h : s137_p5 K B1 (s 0) (s 2) (s 4) (s 6) (s 7) w) : Tr (s137_p5_den K (fun s w => B1 [s 0, s 2, s 4] w) s w) :=
  tr_simple (P := Tryz.prog) (codes := [(cd (Tryz.f137.body.getD .skip) [1, 1, 0, 0, 0, 1, 1, 0, 1, 1, 1, 1, 0]), (cd (Tryz.f137.body.getD .skip) [1, 1, 0, 0, 0, 1, 1, 0, 1, 1, 1, 1, 1])]) (N := (fun s w => B1 [s 0, s 2, s 4] w)) (N' := (fun s w => B1 [s 0, s 2, s 4] w)) (X := (fun i => (bif Nat.beq i 2 then (fun s w => B1 [s 0, s 2, s 4] w) else (bif Nat.beq i 1 then (fun s w => B1 [s 0, s 2, s 4] w) else (bif Nat.beq i 0 then (s137_R K) else (fun _ _ => False)))))) (X' := (fun i => (bif Nat.beq i 2 then (fun s w => B1 [s 0, s 2, s 4] w) else (bif Nat.beq i 1 then (fun s w => B1 [s 0, s 2, s 4] w) else (bif Nat.beq i 0 then (s137_R K) else (fun _ _ => False)))))) (R := s137_R K) (s := s) (w := w) (p := s137_p5 K B1 (s 0) (s 2) (s 4) (s 6) (s 7) w) (q := s137_p5_den K (fun s w => B1 [s 0, s 2, s 4] w) s w) tr_id (fun i => (tr_bif tr_id (tr_bif tr_id (tr_bif tr_id tr_id)))) (by kernel_rfl) (by kernel_rfl) @h
def s137_p6 (K : Value → World → Prop) (B1 : List Value → World → Prop) (t0 t2 t4 t6 t7 t86 : Value) (w : World) : Prop :=
  ifb t86
  (s137_p4 K B1 t0 t2 w)
  (s137_p5 K B1 t0 t2 t4 t6 t7 w)
def s137_p6_den (K : Value → World → Prop) (M1 : (Nat → Value) → World → Prop) : (Nat → Value) → World → Prop := fun s w => ifb (ev s (.tmp 86)) ((s137_p4_den K M1) s w) ((s137_p5_den K M1) s w)
theorem s137_p6_ok (K : Value → World → Prop) (B1 : List Value → World → Prop) (s : Nat → Value) (w : World) (h : s137_p6 K B1 (s 0) (s 2) (s 4) (s 6) (s 7) (s 86) w) : Tr (s137_p6_den K (fun s w => B1 [s 0, s 2, s 4] w) s w) :=
  tr_cond (v := ev s (.tmp 86)) (a := (fun s w => s137_p4 K B1 (s 0) (s 2) w) s w) (a' := (s137_p4_den K (fun s w => B1 [s 0, s 2, s 4] w)) s w) (b := (fun s w => s137_p5 K B1 (s 0) (s 2) (s 4) (s 6) (s 7) w) s w) (b' := (s137_p5_den K (fun s w => B1 [s 0, s 2, s 4] w)) s w) (p := s137_p6 K B1 (s 0) (s 2) (s 4) (s 6) (s 7) (s 86) w) (q := s137_p6_den K (fun s w => B1 [s 0, s 2, s 4] w) s w) ((fun s w h => s137_p4_ok K B1 s w @h) s w) ((fun s w h => s137_p5_ok K B1 s w @h) s w) (by kernel_rfl) (by kernel_rfl) @h
def s137_p7 (K : Value → World → Prop) (B1 : List Value → World → Prop) (t0 t2 t4 t6 t7 t8 : Value) (w : World) : Prop :=
  boI .eql t8 (.int .i64 2) (fun t88 w =>
  s137_p6 K B1 t0 t2 t4 t6 t7 t88 w) w
def s137_p7_den (K : Value → World → Prop) (M1 : (Nat → Value) → World → Prop) : (Nat → Value) → World → Prop := denL Tryz.prog [(cd (Tryz.f137.body.getD .skip) [1, 1, 0, 0, 0, 1, 1, 0, 1, 1, 0])] (s137_p6_den K M1) (fun i => (bif Nat.beq i 2 then M1 else (bif Nat.beq i 1 then M1 else (bif Nat.beq i 0 then (s137_R K) else (fun _ _ => False))))) (s137_R K)
theorem s137_p7_ok (K : Value → World → Prop) (B1 : List Value → World → Prop) (s : Nat → Value) (w : World) (h : s137_p7 K B1 (s 0) (s 2) (s 4) (s 6) (s 7) (s 8) w) : Tr (s137_p7_den K (fun s w => B1 [s 0, s 2, s 4] w) s w) :=
  tr_simple (P := Tryz.prog) (codes := [(cd (Tryz.f137.body.getD .skip) [1, 1, 0, 0, 0, 1, 1, 0, 1, 1, 0])]) (N := (fun s w => s137_p6 K B1 (s 0) (s 2) (s 4) (s 6) (s 7) (s 86) w)) (N' := (s137_p6_den K (fun s w => B1 [s 0, s 2, s 4] w))) (X := (fun i => (bif Nat.beq i 2 then (fun s w => B1 [s 0, s 2, s 4] w) else (bif Nat.beq i 1 then (fun s w => B1 [s 0, s 2, s 4] w) else (bif Nat.beq i 0 then (s137_R K) else (fun _ _ => False)))))) (X' := (fun i => (bif Nat.beq i 2 then (fun s w => B1 [s 0, s 2, s 4] w) else (bif Nat.beq i 1 then (fun s w => B1 [s 0, s 2, s 4] w) else (bif Nat.beq i 0 then (s137_R K) else (fun _ _ => False)))))) (R := s137_R K) (s := s) (w := w) (p := s137_p7 K B1 (s 0) (s 2) (s 4) (s 6) (s 7) (s 8) w) (q := s137_p7_den K (fun s w => B1 [s 0, s 2, s 4] w) s w) (fun s w h => s137_p6_ok K B1 s w @h) (fun i => (tr_bif tr_id (tr_bif tr_id (tr_bif tr_id tr_id)))) (by kernel_rfl) (by kernel_rfl) @h
def s137_p8 (K : Value → World → Prop) (B1 : List Value → World → Prop) (t0 t2 t4 t6 t7 t8 t81 : Value) (w : World) : Prop :=
  ifb t81
  (s137_p1 K B1 t2 t4 w)
  (s137_p7 K B1 t0 t2 t4 t6 t7 t8 w)
def s137_p8_den (K : Value → World → Prop) (M1 : (Nat → Value) → World → Prop) : (Nat → Value) → World → Prop := fun s w => ifb (ev s (.tmp 81)) ((s137_p1_den K M1) s w) ((s137_p7_den K M1) s w)
theorem s137_p8_ok (K : Value → World → Prop) (B1 : List Value → World → Prop) (s : Nat → Value) (w : World) (h : s137_p8 K B1 (s 0) (s 2) (s 4) (s 6) (s 7) (s 8) (s 81) w) : Tr (s137_p8_den K (fun s w => B1 [s 0, s 2, s 4] w) s w) :=
  tr_cond (v := ev s (.tmp 81)) (a := (fun s w => s137_p1 K B1 (s 2) (s 4) w) s w) (a' := (s137_p1_den K (fun s w => B1 [s 0, s 2, s 4] w)) s w) (b := (fun s w => s137_p7 K B1 (s 0) (s 2) (s 4) (s 6) (s 7) (s 8) w) s w) (b' := (s137_p7_den K (fun s w => B1 [s 0, s 2, s 4] w)) s w) (p := s137_p8 K B1 (s 0) (s 2) (s 4) (s 6) (s 7) (s 8) (s 81) w) (q := s137_p8_den K (fun s w => B1 [s 0, s 2, s 4] w) s w) ((fun s w h => s137_p1_ok K B1 s w @h) s w) ((fun s w h => s137_p7_ok K B1 s w @h) s w) (by kernel_rfl) (by kernel_rfl) @h
def s137_p9 (K : Value → World → Prop) (B1 : List Value → World → Prop) (t0 t2 t4 t6 t7 t8 : Value) (w : World) : Prop :=
  boI .eql t8 (.int .i64 1) (fun t83 w =>
  s137_p8 K B1 t0 t2 t4 t6 t7 t8 t83 w) w
def s137_p9_den (K : Value → World → Prop) (M1 : (Nat → Value) → World → Prop) : (Nat → Value) → World → Prop := denL Tryz.prog [(cd (Tryz.f137.body.getD .skip) [1, 1, 0, 0, 0, 1, 1, 0, 0])] (s137_p8_den K M1) (fun i => (bif Nat.beq i 2 then M1 else (bif Nat.beq i 1 then M1 else (bif Nat.beq i 0 then (s137_R K) else (fun _ _ => False))))) (s137_R K)
theorem s137_p9_ok (K : Value → World → Prop) (B1 : List Value → World → Prop) (s : Nat → Value) (w : World) (h : s137_p9 K B1 (s 0) (s 2) (s 4) (s 6) (s 7) (s 8) w) : Tr (s137_p9_den K (fun s w => B1 [s 0, s 2, s 4] w) s w) :=
  tr_simple (P := Tryz.prog) (codes := [(cd (Tryz.f137.body.getD .skip) [1, 1, 0, 0, 0, 1, 1, 0, 0])]) (N := (fun s w => s137_p8 K B1 (s 0) (s 2) (s 4) (s 6) (s 7) (s 8) (s 81) w)) (N' := (s137_p8_den K (fun s w => B1 [s 0, s 2, s 4] w))) (X := (fun i => (bif Nat.beq i 2 then (fun s w => B1 [s 0, s 2, s 4] w) else (bif Nat.beq i 1 then (fun s w => B1 [s 0, s 2, s 4] w) else (bif Nat.beq i 0 then (s137_R K) else (fun _ _ => False)))))) (X' := (fun i => (bif Nat.beq i 2 then (fun s w => B1 [s 0, s 2, s 4] w) else (bif Nat.beq i 1 then (fun s w => B1 [s 0, s 2, s 4] w) else (bif Nat.beq i 0 then (s137_R K) else (fun _ _ => False)))))) (R := s137_R K) (s := s) (w := w) (p := s137_p9 K B1 (s 0) (s 2) (s 4) (s 6) (s 7) (s 8) w) (q := s137_p9_den K (fun s w => B1 [s 0, s 2, s 4] w) s w) (fun s w h => s137_p8_ok K B1 s w @h) (fun i => (tr_bif tr_id (tr_bif tr_id (tr_bif tr_id tr_id)))) (by kernel_rfl) (by kernel_rfl) @h
def s137_p10 (K : Value → World → Prop) (B1 : List Value → World → Prop) (t0 t2 t4 : Value) (w : World) : Prop :=
  nck t0 (fun t54 w =>
  fd 1 t54 (fun t55 w =>
  ld1 t55 (fun t56 w =>
  sls 1 t56 (some t4) none (fun t58 w =>
  cl Tryz.prog 157 #[t58] (fun t59 w =>
  exq t59 0 (fun t60 w =>
  exq t59 1 (fun t61 w =>
  exq t59 2 (fun t62 w =>
  s137_p9 K B1 t0 t2 t4 t60 t61 t62 w) w) w) w) w) w) w) w) w
def s137_p10_den (K : Value → World → Prop) (M1 : (Nat → Value) → World → Prop) : (Nat → Value) → World → Prop := denL Tryz.prog [(cd (Tryz.f137.body.getD .skip) [1, 1, 0, 0, 0, 1, 0])] (s137_p9_den K M1) (fun i => (bif Nat.beq i 1 then M1 else (bif Nat.beq i 0 then (s137_R K) else (fun _ _ => False)))) (s137_R K)
theorem s137_p10_ok (K : Value → World → Prop) (B1 : List Value → World → Prop) (s : Nat → Value) (w : World) (h : s137_p10 K B1 (s 0) (s 2) (s 4) w) : Tr (s137_p10_den K (fun s w => B1 [s 0, s 2, s 4] w) s w) :=
  tr_simple (P := Tryz.prog) (codes := [(cd (Tryz.f137.body.getD .skip) [1, 1, 0, 0, 0, 1, 0])]) (N := (fun s w => s137_p9 K B1 (s 0) (s 2) (s 4) (s 6) (s 7) (s 8) w)) (N' := (s137_p9_den K (fun s w => B1 [s 0, s 2, s 4] w))) (X := (fun i => (bif Nat.beq i 1 then (fun s w => B1 [s 0, s 2, s 4] w) else (bif Nat.beq i 0 then (s137_R K) else (fun _ _ => False))))) (X' := (fun i => (bif Nat.beq i 1 then (fun s w => B1 [s 0, s 2, s 4] w) else (bif Nat.beq i 0 then (s137_R K) else (fun _ _ => False))))) (R := s137_R K) (s := s) (w := w) (p := s137_p10 K B1 (s 0) (s 2) (s 4) w) (q := s137_p10_den K (fun s w => B1 [s 0, s 2, s 4] w) s w) (fun s w h => s137_p9_ok K B1 s w @h) (fun i => (tr_bif tr_id (tr_bif tr_id tr_id))) (by kernel_rfl) (by kernel_rfl) @h
def s137_p11 (K : Value → World → Prop) (B1 : List Value → World → Prop) (t0 t2 t4 : Value) (w : World) : Prop :=
  nck t0 (fun t10 w =>
  fd 2 t10 (fun t11 w =>
  ld1 t11 (fun t12 w =>
  boI .gtr t12 (.int .i64 0) (fun t13 w =>
  ifb t13
  (nck t0 (fun t15 w =>
  fd 1 t15 (fun t16 w =>
  ld1 t16 (fun t17 w =>
  lnS t17 (fun t18 w =>
  boI .sub t18 t4 (fun t20 w =>
  nck t0 (fun t23 w =>
  fd 2 t23 (fun t24 w =>
  ld1 t24 (fun t25 w =>
  boI .gtr t20 t25 (fun t26 w =>
  ifb t26
  (nck t0 (fun t28 w =>
  fd 2 t28 (fun t29 w =>
  ld1 t29 (fun t30 w =>
  boI .add t4 t30 (fun t33 w =>
  nck t0 (fun t35 w =>
  fd 2 t35 (fun t36 w =>
  ld1 t36 (fun t37 w =>
  boI .sub t37 t30 (fun t39 w =>
  nck t0 (fun t40 w =>
  fd 2 t40 (fun t41 w =>
  st1 t41 t39 (fun w =>
  nck t0 (fun t43 w =>
  fd 2 t43 (fun t44 w =>
  ld1 t44 (fun t45 w =>
  boI .gtr t45 (.int .i64 0) (fun t46 w =>
  ifb t46
  (K (.tuple #[t2, t33]) w)
  (bsq 37 [(.slice none 0 0)] 1 [(some (0, 1), (.slice none 0 0))] (fun t50 w =>
  apq 37 [(.slice none 0 0)] 24 t2 t50 (fun t51 w =>
  s137_p10 K B1 t0 t51 t33 w) w) w)) w) w) w) w) w) w) w) w) w) w) w) w) w) w) w)
  (boI .add t4 t20 (fun t33_2 w =>
  nck t0 (fun t35_2 w =>
  fd 2 t35_2 (fun t36_2 w =>
  ld1 t36_2 (fun t37_2 w =>
  boI .sub t37_2 t20 (fun t39_2 w =>
  nck t0 (fun t40_2 w =>
  fd 2 t40_2 (fun t41_2 w =>
  st1 t41_2 t39_2 (fun w =>
  nck t0 (fun t43_2 w =>
  fd 2 t43_2 (fun t44_2 w =>
  ld1 t44_2 (fun t45_2 w =>
  boI .gtr t45_2 (.int .i64 0) (fun t46_2 w =>
  ifb t46_2
  (K (.tuple #[t2, t33_2]) w)
  (bsq 37 [(.slice none 0 0)] 1 [(some (0, 1), (.slice none 0 0))] (fun t50_2 w =>
  apq 37 [(.slice none 0 0)] 24 t2 t50_2 (fun t51_2 w =>
  s137_p10 K B1 t0 t51_2 t33_2 w) w) w)) w) w) w) w) w) w) w) w) w) w) w) w)) w) w) w) w) w) w) w) w) w)
  (s137_p10 K B1 t0 t2 t4 w)) w) w) w) w
def s137_p11_den (K : Value → World → Prop) (M1 : (Nat → Value) → World → Prop) : (Nat → Value) → World → Prop := denL Tryz.prog [(cd (Tryz.f137.body.getD .skip) [1, 1, 0, 0, 0, 0, 0]), (cd (Tryz.f137.body.getD .skip) [1, 1, 0, 0, 0, 0, 1])] (s137_p10_den K M1) (fun i => (bif Nat.beq i 1 then M1 else (bif Nat.beq i 0 then (s137_R K) else (fun _ _ => False)))) (s137_R K)
theorem s137_p11_ok (K : Value → World → Prop) (B1 : List Value → World → Prop) (s : Nat → Value) (w : World) (h : s137_p11 K B1 (s 0) (s 2) (s 4) w) : Tr (s137_p11_den K (fun s w => B1 [s 0, s 2, s 4] w) s w) :=
  tr_simple (P := Tryz.prog) (codes := [(cd (Tryz.f137.body.getD .skip) [1, 1, 0, 0, 0, 0, 0]), (cd (Tryz.f137.body.getD .skip) [1, 1, 0, 0, 0, 0, 1])]) (N := (fun s w => s137_p10 K B1 (s 0) (s 2) (s 4) w)) (N' := (s137_p10_den K (fun s w => B1 [s 0, s 2, s 4] w))) (X := (fun i => (bif Nat.beq i 1 then (fun s w => B1 [s 0, s 2, s 4] w) else (bif Nat.beq i 0 then (s137_R K) else (fun _ _ => False))))) (X' := (fun i => (bif Nat.beq i 1 then (fun s w => B1 [s 0, s 2, s 4] w) else (bif Nat.beq i 0 then (s137_R K) else (fun _ _ => False))))) (R := s137_R K) (s := s) (w := w) (p := s137_p11 K B1 (s 0) (s 2) (s 4) w) (q := s137_p11_den K (fun s w => B1 [s 0, s 2, s 4] w) s w) (fun s w h => s137_p10_ok K B1 s w @h) (fun i => (tr_bif tr_id (tr_bif tr_id tr_id))) (by kernel_rfl) (by kernel_rfl) @h
def s137_p12_F (K : Value → World → Prop) (B1 : List Value → World → Prop) (l : List Value) (w : World) : Prop :=
  match l with
  | [t0, t2, t4] => s137_p11 K B1 t0 t2 t4 w
  | _ => False
theorem s137_p12_Fe {K : Value → World → Prop} {B1 : List Value → World → Prop} {t0 t2 t4 : Value} {w : World} : s137_p12_F K B1 [t0, t2, t4] w = s137_p11 K B1 t0 t2 t4 w := by kernel_rfl
def s137_p12 (K : Value → World → Prop) (t0 t2 t4 : Value) (w : World) : Prop :=
  LoopL (s137_p12_F K) [t0, t2, t4] w
def s137_p12_den (K : Value → World → Prop) : (Nat → Value) → World → Prop := fun s w => LoopP (fun M1 s w => s137_p11_den K M1 s w) s w
theorem s137_p12_ok (K : Value → World → Prop) (s : Nat → Value) (w : World) (h : s137_p12 K (s 0) (s 2) (s 4) w) : Tr (s137_p12_den K s w) :=
  tr_loop (G := fun N' s w => s137_p11_den K N' s w) (F := s137_p12_F K) (sel := fun s => [s 0, s 2, s 4]) (s := s) (w := w) (p := s137_p12 K (s 0) (s 2) (s 4) w) (q := s137_p12_den K s w) (fun B s w h => s137_p11_ok K B s w @h) (by kernel_rfl) (by kernel_rfl) @h
def s137_p13 (K : Value → World → Prop) (t0 : Value) (w : World) : Prop :=
  s137_p12 K t0 (.slice none 0 0) (.int .i64 0) w
def s137_p13_den (K : Value → World → Prop) : (Nat → Value) → World → Prop := denL Tryz.prog [(cd (Tryz.f137.body.getD .skip) [0]), (cd (Tryz.f137.body.getD .skip) [1, 0])] (s137_p12_den K) (fun i => (fun _ _ => False)) (s137_R K)
theorem s137_p13_ok (K : Value → World → Prop) (s : Nat → Value) (w : World) (h : s137_p13 K (s 0) w) : Tr (s137_p13_den K s w) :=
  tr_simple (P := Tryz.prog) (codes := [(cd (Tryz.f137.body.getD .skip) [0]), (cd (Tryz.f137.body.getD .skip) [1, 0])]) (N := (fun s w => s137_p12 K (s 0) (s 2) (s 4) w)) (N' := (s137_p12_den K)) (X := (fun i => (fun _ _ => False))) (X' := (fun i => (fun _ _ => False))) (R := s137_R K) (s := s) (w := w) (p := s137_p13 K (s 0) w) (q := s137_p13_den K s w) (fun s w h => s137_p12_ok K s w @h) (fun i => tr_id) (by kernel_rfl) (by kernel_rfl) @h
/-- the call, from the text -/
theorem c137 (t0 : Value) {K : Value → World → Prop} {w : World} (h : s137_p13 K t0 w) : cl Tryz.prog 137 #[t0] K w :=
  calls_of_tr (c := (Tryz.f137.body.getD .skip)) (fn := Tryz.f137) (q := s137_p13_den K (st0 #[t0]) w) Tryz.func137 (by kernel_rfl) (by kernel_rfl) (Nat.le_of_ble_eq_true (by kernel_rfl)) (by kernel_rfl) (by kernel_rfl) (s137_p13_ok K (st0 #[t0]) w @h)

/-! ### function 56 : (*e2e.enginem.State).Stream -/
def s56_R (K : Value → World → Prop) (s : Nat → Value) (w : World) : Prop := retv Tryz.prog s Tryz.f56.results.toList (fun vs => K (pack vs) w) w
def s56_p1 (K : Value → World → Prop) (B1 : List Value → World → Prop) (t0 t1 t5 : Value) (w : World) : Prop :=
  cl Tryz.prog 138 #[t1] (fun t13 w =>
  exq t13 0 (fun t14 w =>
  exq t13 1 (fun t15 w =>
  boI .eql t15 (.int .i64 0) (fun t17 w =>
  gd t17 false (fun K w => K t15 w) (fun t19 w =>
  gd t17 false (boI .gtr t19 (.int .i64 0)) (fun t20 w =>
  gd t17 false (fun K w => K t20 w) (fun t21 w =>
  gd t21 true (fun K w => K t14 w) (fun t22 w =>
  gd t21 true (fun K w => K t1 w) (fun t23 w =>
  gd t21 true (lnS t23) (fun t24 w =>
  gd t21 true (fun K w => K t15 w) (fun t25 w =>
  gd t21 true (boI .sub t24 t25) (fun t26 w =>
  gd t21 true (boI .gtr t22 t26) (fun t27 w =>
  gd t17 false (pk t21 t27 (.bool false)) (fun t28 w =>
  pk t17 (.bool true) t28 (fun t29 w =>
  ifb t29
  (K t5 w)
  (bsq 5 [(.int .u8 0)] 0 [] (fun t31 w =>
  boI .gtr t15 (.int .i64 0) (fun t33 w =>
  ifb t33
  (boI .add t15 t14 (fun t38 w =>
  sls 1 t1 (some t15) (some t38) (fun t39 w =>
  cl Tryz.prog 25 #[t0, t39] (fun t42 w =>
  lnS t42 (fun t45 w =>
  cl Tryz.prog 139 #[t45] (fun t46 w =>
  apq 5 [(.int .u8 0)] 1 t5 t46 (fun t47 w =>
  apq 5 [(.int .u8 0)] 1 t47 t42 (fun t49 w =>
  boI .lss t15 (.int .i64 0) (fun t51 w =>
  ifb t51
  (K t49 w)
  (boI .add t15 t14 (fun t56 w =>
  sls 1 t1 (some t56) none (fun t57 w =>
  B1 [t0, t57, t49] w) w) w)) w) w) w) w) w) w) w) w)
  (cl Tryz.prog 25 #[t0, t31] (fun t42_2 w =>
  lnS t42_2 (fun t45_2 w =>
  cl Tryz.prog 139 #[t45_2] (fun t46_2 w =>
  apq 5 [(.int .u8 0)] 1 t5 t46_2 (fun t47_2 w =>
  apq 5 [(.int .u8 0)] 1 t47_2 t42_2 (fun t49_2 w =>
  boI .lss t15 (.int .i64 0) (fun t51_2 w =>
  ifb t51_2
  (K t49_2 w)
  (boI .add t15 t14 (fun t56_2 w =>
  sls 1 t1 (some t56_2) none (fun t57_2 w =>
  B1 [t0, t57_2, t49_2] w) w) w)) w) w) w) w) w) w)) w) w)) w) w) w) w) w) w) w) w) w) w) w) w) w) w) w
def s56_p1_den (K : Value → World → Prop) (M1 : (Nat → Value) → World → Prop) : (Nat → Value) → World → Prop := denL Tryz.prog [(cd (Tryz.f56.body.getD .skip) [1, 1, 0, 0])] M1 (fun i => (bif Nat.beq i 0 then (s56_R K) else (fun _ _ => False))) (s56_R K)
theorem s56_p1_ok (K : Value → World → Prop) (B1 : List Value → World → Prop) (s : Nat → Value) (w : World) (h : s56_p1 K B1 (s 0) (s 1) (s 5) w) : Tr (s56_p1_den K (fun s w => B1 [s 0, s 1, s 5] w) s w) :=
  tr_simple (P := Tryz.prog) (codes := [(cd (Tryz.f56.body.getD .skip) [1, 1, 0, 0])]) (N := (fun s w => B1 [s 0, s 1, s 5] w)) (N' := (fun s w => B1 [s 0, s 1, s 5] w)) (X := (fun i => (bif Nat.beq i 0 then (s56_R K) else (fun _ _ => False)))) (X' := (fun i => (bif Nat.beq i 0 then (s56_R K) else (fun _ _ => False)))) (R := s56_R K) (s := s) (w := w) (p := s56_p1 K B1 (s 0) (s 1) (s 5) w) (q := s56_p1_den K (fun s w => B1 [s 0, s 1, s 5] w) s w) tr_id (fun i => (tr_bif tr_id tr_id)) (by kernel_rfl) (by kernel_rfl) @h
def s56_p2_F (K : Value → World → Prop) (B1 : List Value → World → Prop) (l : List Value) (w : World) : Prop :=
  match l with
  | [t0, t1, t5] => s56_p1 K B1 t0 t1 t5 w
  | _ => False
theorem s56_p2_Fe {K : Value → World → Prop} {B1 : List Value → World → Prop} {t0 t1 t5 : Value} {w : World} : s56_p2_F K B1 [t0, t1, t5] w = s56_p1 K B1 t0 t1 t5 w := by kernel_rfl
def s56_p2 (K : Value → World → Prop) (t0 t1 t5 : Value) (w : World) : Prop :=
  LoopL (s56_p2_F K) [t0, t1, t5] w
def s56_p2_den (K : Value → World → Prop) : (Nat → Value) → World → Prop := fun s w => LoopP (fun M1 s w => s56_p1_den K M1 s w) s w
theorem s56_p2_ok (K : Value → World → Prop) (s : Nat → Value) (w : World) (h : s56_p2 K (s 0) (s 1) (s 5) w) : Tr (s56_p2_den K s w) :=
  tr_loop (G := fun N' s w => s56_p1_den K N' s w) (F := s56_p2_F K) (sel := fun s => [s 0, s 1, s 5]) (s := s) (w := w) (p := s56_p2 K (s 0) (s 1) (s 5) w) (q := s56_p2_den K s w) (fun B s w h => s56_p1_ok K B s w @h) (by kernel_rfl) (by kernel_rfl) @h
def s56_p3 (K : Value → World → Prop) (t0 t1 : Value) (w : World) : Prop :=
  bsq 5 [(.int .u8 0)] 0 [] (fun t10 w =>
  s56_p2 K t0 t1 t10 w) w
def s56_p3_den (K : Value → World → Prop) : (Nat → Value) → World → Prop := denL Tryz.prog [(cd (Tryz.f56.body.getD .skip) [0]), (cd (Tryz.f56.body.getD .skip) [1, 0])] (s56_p2_den K) (fun i => (fun _ _ => False)) (s56_R K)
theorem s56_p3_ok (K : Value → World → Prop) (s : Nat → Value) (w : World) (h : s56_p3 K (s 0) (s 1) w) : Tr (s56_p3_den K s w) :=
  tr_simple (P := Tryz.prog) (codes := [(cd (Tryz.f56.body.getD .skip) [0]), (cd (Tryz.f56.body.getD .skip) [1, 0])]) (N := (fun s w => s56_p2 K (s 0) (s 1) (s 5) w)) (N' := (s56_p2_den K)) (X := (fun i => (fun _ _ => False))) (X' := (fun i => (fun _ _ => False))) (R := s56_R K) (s := s) (w := w) (p := s56_p3 K (s 0) (s 1) w) (q := s56_p3_den K s w) (fun s w h => s56_p2_ok K s w @h) (fun i => tr_id) (by kernel_rfl) (by kernel_rfl) @h
/-- the call, from the text -/
theorem c56 (t0 t1 : Value) {K : Value → World → Prop} {w : World} (h : s56_p3 K t0 t1 w) : cl Tryz.prog 56 #[t0, t1] K w :=
  calls_of_tr (c := (Tryz.f56.body.getD .skip)) (fn := Tryz.f56) (q := s56_p3_den K (st0 #[t0, t1]) w) Tryz.func56 (by kernel_rfl) (by kernel_rfl) (Nat.le_of_ble_eq_true (by kernel_rfl)) (by kernel_rfl) (by kernel_rfl) (s56_p3_ok K (st0 #[t0, t1]) w @h)

end Go.Proofs.Qxb6500896aGreat
