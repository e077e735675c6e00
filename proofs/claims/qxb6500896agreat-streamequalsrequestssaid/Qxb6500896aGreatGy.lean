import Derived.Test.Qxb6500896aGreatProg
import Derived.Test.Qxb6500896aGreatShTr
namespace Go.Proofs.Qxb6500896aGreat
open Go.Sh Go.RowKit
set_option linter.unusedVariables false
set_option maxRecDepth 100000

/-! ### function 31 : e2e.engine.NewClient -/
def s31_R (K : Value → World → Prop) (s : Nat → Value) (w : World) : Prop := retv Tryz.prog s Tryz.f31.results.toList (fun vs => K (pack vs) w) w
def s31_p1 (K : Value → World → Prop) (t0 : Value) (w : World) : Prop :=
  bdq [.nilFunc] [(some (0, 1), t0)] (fun t4 w =>
  nw 143 (t4).cells (fun t5 w =>
  K t5 w) w) w
def s31_p1_den (K : Value → World → Prop) : (Nat → Value) → World → Prop := denL Tryz.prog [(cd (Tryz.f31.body.getD .skip) [0]), (cd (Tryz.f31.body.getD .skip) [1, 0]), (cd (Tryz.f31.body.getD .skip) [1, 1])] (fun _ _ => False) (fun i => (fun _ _ => False)) (s31_R K)
theorem s31_p1_ok (K : Value → World → Prop) (s : Nat → Value) (w : World) (h : s31_p1 K (s 0) w) : Tr (s31_p1_den K s w) :=
  tr_simple (P := Tryz.prog) (codes := [(cd (Tryz.f31.body.getD .skip) [0]), (cd (Tryz.f31.body.getD .skip) [1, 0]), (cd (Tryz.f31.body.getD .skip) [1, 1])]) (N := (fun _ _ => False)) (N' := (fun _ _ => False)) (X := (fun i => (fun _ _ => False))) (X' := (fun i => (fun _ _ => False))) (R := s31_R K) (s := s) (w := w) (p := s31_p1 K (s 0) w) (q := s31_p1_den K s w) tr_id (fun i => tr_id) (by kernel_rfl) (by kernel_rfl) @h
/-- the call, from the text -/
theorem c31 (t0 : Value) {K : Value → World → Prop} {w : World} (h : s31_p1 K t0 w) : cl Tryz.prog 31 #[t0] K w :=
  calls_of_tr (c := (Tryz.f31.body.getD .skip)) (fn := Tryz.f31) (q := s31_p1_den K (st0 #[t0]) w) Tryz.func31 (by kernel_rfl) (by kernel_rfl) (Nat.le_of_ble_eq_true (by kernel_rfl)) (by kernel_rfl) (by kernel_rfl) (s31_p1_ok K (st0 #[t0]) w @h)

/-! ### function 130 : (*e2e.engine.Client).Call -/
def s130_R (K : Value → World → Prop) (s : Nat → Value) (w : World) : Prop := retv Tryz.prog s Tryz.f130.results.toList (fun vs => K (pack vs) w) w
def s130_p1 (K : Value → World → Prop) (t3 t4 t6 t9 : Value) (w : World) : Prop :=
  fd 1 t9 (fun t53 w =>
  ld1 t53 (fun t54 w =>
  fd 0 t3 (fun t55 w =>
  ld1 t55 (fun t56 w =>
  boI .neq t54 t56 (fun t57 w =>
  ifb t57
  (bdq [(.int .i64 0), (.int .u8 0), (.int .i64 0), (.int .i64 0), (.int .i64 0), (.int .i64 0), (.int .i64 0), (.slice none 0 0), (.int .i64 0), (.int .i64 0), (.int .i64 0), (.slice none 0 0), (.int .i64 0), (.int .i64 0), (.int .i64 0), (.int .i64 0), (.int .i64 0), (.int .i64 0), (.slice none 0 0), (.int .i64 0), (.int .i64 0), (.int .i64 0), (.int .i64 0), (.int .i64 0), (.int .i64 0), (.int .i64 0), (.int .i64 0), (.int .i64 0), (.int .i64 0), (.int .i64 0), (.int .i64 0), (.int .i64 0), (.int .i64 0), (.int .i64 0)] [] (fun t58 w =>
  boS .add t6 (.string ⟨#[58, 32, 114, 101, 112, 108, 121, 32, 116, 111, 32, 97, 110, 111, 116, 104, 101, 114, 32, 114, 101, 113, 117, 101, 115, 116]⟩) (fun t60 w =>
  bdq [(.int .i64 0), (.string ⟨#[]⟩)] [(some (0, 1), (.int .i64 1)), (some (1, 1), t60)] (fun t61 w =>
  nw 157 (t61).cells (fun t62 w =>
  stn 34 t4 t58 (fun w =>
  ldn 34 t4 (fun r0 _ =>
  K (.tuple #[r0, (.iface 155 t62)]) w) w) w) w) w) w) w)
  (ldn 34 t9 (fun t64 w =>
  stn 34 t4 t64 (fun w =>
  ldn 34 t4 (fun r0 _ =>
  K (.tuple #[r0, .nilIface]) w) w) w) w)) w) w) w) w) w
def s130_p1_den (K : Value → World → Prop) : (Nat → Value) → World → Prop := denL Tryz.prog [(cd (Tryz.f130.body.getD .skip) [1, 1, 1, 1, 1, 1, 1, 0, 0]), (cd (Tryz.f130.body.getD .skip) [1, 1, 1, 1, 1, 1, 1, 0, 1]), (cd (Tryz.f130.body.getD .skip) [1, 1, 1, 1, 1, 1, 1, 1, 0]), (cd (Tryz.f130.body.getD .skip) [1, 1, 1, 1, 1, 1, 1, 1, 1])] (fun _ _ => False) (fun i => (fun _ _ => False)) (s130_R K)
theorem s130_p1_ok (K : Value → World → Prop) (s : Nat → Value) (w : World) (h : s130_p1 K (s 3) (s 4) (s 6) (s 9) w) : Tr (s130_p1_den K s w) :=
  tr_simple (P := Tryz.prog) (codes := [(cd (Tryz.f130.body.getD .skip) [1, 1, 1, 1, 1, 1, 1, 0, 0]), (cd (Tryz.f130.body.getD .skip) [1, 1, 1, 1, 1, 1, 1, 0, 1]), (cd (Tryz.f130.body.getD .skip) [1, 1, 1, 1, 1, 1, 1, 1, 0]), (cd (Tryz.f130.body.getD .skip) [1, 1, 1, 1, 1, 1, 1, 1, 1])]) (N := (fun _ _ => False)) (N' := (fun _ _ => False)) (X := (fun i => (fun _ _ => False))) (X' := (fun i => (fun _ _ => False))) (R := s130_R K) (s := s) (w := w) (p := s130_p1 K (s 3) (s 4) (s 6) (s 9) w) (q := s130_p1_den K s w) tr_id (fun i => tr_id) (by kernel_rfl) (by kernel_rfl) @h
def s130_p2 (K : Value → World → Prop) (t4 t5 : Value) (w : World) : Prop :=
  ldn 34 t4 (fun r0 _ =>
  K (.tuple #[r0, t5]) w) w
def s130_p2_den (K : Value → World → Prop) : (Nat → Value) → World → Prop := denL Tryz.prog [(cd (Tryz.f130.body.getD .skip) [1, 1, 1, 1, 1, 1, 0, 1, 0, 1])] (fun _ _ => False) (fun i => (fun _ _ => False)) (s130_R K)
theorem s130_p2_ok (K : Value → World → Prop) (s : Nat → Value) (w : World) (h : s130_p2 K (s 4) (s 5) w) : Tr (s130_p2_den K s w) :=
  tr_simple (P := Tryz.prog) (codes := [(cd (Tryz.f130.body.getD .skip) [1, 1, 1, 1, 1, 1, 0, 1, 0, 1])]) (N := (fun _ _ => False)) (N' := (fun _ _ => False)) (X := (fun i => (fun _ _ => False))) (X' := (fun i => (fun _ _ => False))) (R := s130_R K) (s := s) (w := w) (p := s130_p2 K (s 4) (s 5) w) (q := s130_p2_den K s w) tr_id (fun i => tr_id) (by kernel_rfl) (by kernel_rfl) @h
def s130_p3_d (K : Value → World → Prop) (t4 t6 t9 : Value) (w0 w : World) : Prop :=
  fd 0 t9 (fun t47 _ =>
  (bdq [(.int .i64 0), (.int .u8 0), (.int .i64 0), (.int .i64 0), (.int .i64 0), (.int .i64 0), (.int .i64 0), (.slice none 0 0), (.int .i64 0), (.int .i64 0), (.int .i64 0), (.slice none 0 0), (.int .i64 0), (.int .i64 0), (.int .i64 0), (.int .i64 0), (.int .i64 0), (.int .i64 0), (.slice none 0 0), (.int .i64 0), (.int .i64 0), (.int .i64 0), (.int .i64 0), (.int .i64 0), (.int .i64 0), (.int .i64 0), (.int .i64 0), (.int .i64 0), (.int .i64 0), (.int .i64 0), (.int .i64 0), (.int .i64 0), (.int .i64 0), (.int .i64 0)] [] (fun t46 w =>
  (ld1 t47 (fun t48 w =>
  (bdq [(.int .i64 0), (.string ⟨#[]⟩)] [(some (0, 1), t48), (some (1, 1), t6)] (fun t50 w =>
  (nw 157 (t50).cells (fun t51 w =>
  (stn 34 t4 t46 (fun w =>
  s130_p2 K t4 (.iface 155 t51) w) w) ∧
  (stn 34 t4 t46 (fun w =>
  s130_p2 K t4 (.iface 155 t51) w) w)) w) ∧
  (stn 34 t4 t46 (fun w =>
  nw 157 (t50).cells (fun t51_2 w =>
  s130_p2 K t4 (.iface 155 t51_2) w) w) w)) w) ∧
  (stn 34 t4 t46 (fun w =>
  bdq [(.int .i64 0), (.string ⟨#[]⟩)] [(some (0, 1), t48), (some (1, 1), t6)] (fun t50_2 w =>
  nw 157 (t50_2).cells (fun t51_3 w =>
  s130_p2 K t4 (.iface 155 t51_3) w) w) w) w)) w) ∧
  (stn 34 t4 t46 (fun w =>
  ld1 t47 (fun t48_2 w =>
  bdq [(.int .i64 0), (.string ⟨#[]⟩)] [(some (0, 1), t48_2), (some (1, 1), t6)] (fun t50_3 w =>
  nw 157 (t50_3).cells (fun t51_4 w =>
  s130_p2 K t4 (.iface 155 t51_4) w) w) w) w) w)) w) ∧
  (ld1 t47 (fun t48_3 w =>
  (bdq [(.int .i64 0), (.int .u8 0), (.int .i64 0), (.int .i64 0), (.int .i64 0), (.int .i64 0), (.int .i64 0), (.slice none 0 0), (.int .i64 0), (.int .i64 0), (.int .i64 0), (.slice none 0 0), (.int .i64 0), (.int .i64 0), (.int .i64 0), (.int .i64 0), (.int .i64 0), (.int .i64 0), (.slice none 0 0), (.int .i64 0), (.int .i64 0), (.int .i64 0), (.int .i64 0), (.int .i64 0), (.int .i64 0), (.int .i64 0), (.int .i64 0), (.int .i64 0), (.int .i64 0), (.int .i64 0), (.int .i64 0), (.int .i64 0), (.int .i64 0), (.int .i64 0)] [] (fun t46_2 w =>
  (bdq [(.int .i64 0), (.string ⟨#[]⟩)] [(some (0, 1), t48_3), (some (1, 1), t6)] (fun t50_4 w =>
  (nw 157 (t50_4).cells (fun t51_5 w =>
  (stn 34 t4 t46_2 (fun w =>
  s130_p2 K t4 (.iface 155 t51_5) w) w) ∧
  (stn 34 t4 t46_2 (fun w =>
  s130_p2 K t4 (.iface 155 t51_5) w) w)) w) ∧
  (stn 34 t4 t46_2 (fun w =>
  nw 157 (t50_4).cells (fun t51_6 w =>
  s130_p2 K t4 (.iface 155 t51_6) w) w) w)) w) ∧
  (stn 34 t4 t46_2 (fun w =>
  bdq [(.int .i64 0), (.string ⟨#[]⟩)] [(some (0, 1), t48_3), (some (1, 1), t6)] (fun t50_5 w =>
  nw 157 (t50_5).cells (fun t51_7 w =>
  s130_p2 K t4 (.iface 155 t51_7) w) w) w) w)) w) ∧
  (bdq [(.int .i64 0), (.string ⟨#[]⟩)] [(some (0, 1), t48_3), (some (1, 1), t6)] (fun t50_6 w =>
  (bdq [(.int .i64 0), (.int .u8 0), (.int .i64 0), (.int .i64 0), (.int .i64 0), (.int .i64 0), (.int .i64 0), (.slice none 0 0), (.int .i64 0), (.int .i64 0), (.int .i64 0), (.slice none 0 0), (.int .i64 0), (.int .i64 0), (.int .i64 0), (.int .i64 0), (.int .i64 0), (.int .i64 0), (.slice none 0 0), (.int .i64 0), (.int .i64 0), (.int .i64 0), (.int .i64 0), (.int .i64 0), (.int .i64 0), (.int .i64 0), (.int .i64 0), (.int .i64 0), (.int .i64 0), (.int .i64 0), (.int .i64 0), (.int .i64 0), (.int .i64 0), (.int .i64 0)] [] (fun t46_3 w =>
  (nw 157 (t50_6).cells (fun t51_8 w =>
  (stn 34 t4 t46_3 (fun w =>
  s130_p2 K t4 (.iface 155 t51_8) w) w) ∧
  (stn 34 t4 t46_3 (fun w =>
  s130_p2 K t4 (.iface 155 t51_8) w) w)) w) ∧
  (stn 34 t4 t46_3 (fun w =>
  nw 157 (t50_6).cells (fun t51_9 w =>
  s130_p2 K t4 (.iface 155 t51_9) w) w) w)) w) ∧
  (nw 157 (t50_6).cells (fun t51_10 w =>
  (bdq [(.int .i64 0), (.int .u8 0), (.int .i64 0), (.int .i64 0), (.int .i64 0), (.int .i64 0), (.int .i64 0), (.slice none 0 0), (.int .i64 0), (.int .i64 0), (.int .i64 0), (.slice none 0 0), (.int .i64 0), (.int .i64 0), (.int .i64 0), (.int .i64 0), (.int .i64 0), (.int .i64 0), (.slice none 0 0), (.int .i64 0), (.int .i64 0), (.int .i64 0), (.int .i64 0), (.int .i64 0), (.int .i64 0), (.int .i64 0), (.int .i64 0), (.int .i64 0), (.int .i64 0), (.int .i64 0), (.int .i64 0), (.int .i64 0), (.int .i64 0), (.int .i64 0)] [] (fun t46_4 w =>
  (stn 34 t4 t46_4 (fun w =>
  s130_p2 K t4 (.iface 155 t51_10) w) w) ∧
  (stn 34 t4 t46_4 (fun w =>
  s130_p2 K t4 (.iface 155 t51_10) w) w)) w) ∧
  (bdq [(.int .i64 0), (.int .u8 0), (.int .i64 0), (.int .i64 0), (.int .i64 0), (.int .i64 0), (.int .i64 0), (.slice none 0 0), (.int .i64 0), (.int .i64 0), (.int .i64 0), (.slice none 0 0), (.int .i64 0), (.int .i64 0), (.int .i64 0), (.int .i64 0), (.int .i64 0), (.int .i64 0), (.slice none 0 0), (.int .i64 0), (.int .i64 0), (.int .i64 0), (.int .i64 0), (.int .i64 0), (.int .i64 0), (.int .i64 0), (.int .i64 0), (.int .i64 0), (.int .i64 0), (.int .i64 0), (.int .i64 0), (.int .i64 0), (.int .i64 0), (.int .i64 0)] [] (fun t46_5 w =>
  stn 34 t4 t46_5 (fun w =>
  s130_p2 K t4 (.iface 155 t51_10) w) w) w)) w)) w)) w)) w0
def s130_p3 (K : Value → World → Prop) (t4 t6 t9 : Value) (w : World) : Prop := s130_p3_d K t4 t6 t9 (drw w) (drw w)
def s130_p3_den (K : Value → World → Prop) : (Nat → Value) → World → Prop := denL Tryz.prog [(cd (Tryz.f130.body.getD .skip) [1, 1, 1, 1, 1, 1, 0, 1, 0, 0])] (s130_p2_den K) (fun i => (fun _ _ => False)) (s130_R K)
theorem s130_p3_ok (K : Value → World → Prop) (s : Nat → Value) (w : World) (h : s130_p3 K (s 4) (s 6) (s 9) w) : Tr (s130_p3_den K s w) :=
  tr_draw (P := Tryz.prog) (ops := (ro (cd (Tryz.f130.body.getD .skip) [1, 1, 1, 1, 1, 1, 0, 1, 0, 0]))) (ms := [0, 0, 2, 0, 14, 30, 62, 1, 255]) (cs := [1, 3]) (N := (fun s w => s130_p2 K (s 4) (s 5) w)) (N' := (s130_p2_den K)) (s := s) (w := w) (p := s130_p3 K (s 4) (s 6) (s 9) w) (q := s130_p3_den K s w) (by kernel_rfl) (by kernel_rfl) (fun s w h => s130_p2_ok K s w @h) (by kernel_rfl) (by kernel_rfl) @h
def s130_p4 (K : Value → World → Prop) (t3 t4 t6 t9 t45 : Value) (w : World) : Prop :=
  ifb t45
  (s130_p3 K t4 t6 t9 w)
  (s130_p1 K t3 t4 t6 t9 w)
def s130_p4_den (K : Value → World → Prop) : (Nat → Value) → World → Prop := fun s w => ifb (ev s (.tmp 45)) ((s130_p3_den K) s w) ((s130_p1_den K) s w)
theorem s130_p4_ok (K : Value → World → Prop) (s : Nat → Value) (w : World) (h : s130_p4 K (s 3) (s 4) (s 6) (s 9) (s 45) w) : Tr (s130_p4_den K s w) :=
  tr_cond (v := ev s (.tmp 45)) (a := (fun s w => s130_p3 K (s 4) (s 6) (s 9) w) s w) (a' := (s130_p3_den K) s w) (b := (fun s w => s130_p1 K (s 3) (s 4) (s 6) (s 9) w) s w) (b' := (s130_p1_den K) s w) (p := s130_p4 K (s 3) (s 4) (s 6) (s 9) (s 45) w) (q := s130_p4_den K s w) ((fun s w h => s130_p3_ok K s w @h) s w) ((fun s w h => s130_p1_ok K s w @h) s w) (by kernel_rfl) (by kernel_rfl) @h
def s130_p5 (K : Value → World → Prop) (t0 t1 : Value) (w : World) : Prop :=
  nw 52 (t1).cells (fun t3 w =>
  nw 94 #[(.int .i64 0), (.int .u8 0), (.int .i64 0), (.int .i64 0), (.int .i64 0), (.int .i64 0), (.int .i64 0), (.slice none 0 0), (.int .i64 0), (.int .i64 0), (.int .i64 0), (.slice none 0 0), (.int .i64 0), (.int .i64 0), (.int .i64 0), (.int .i64 0), (.int .i64 0), (.int .i64 0), (.slice none 0 0), (.int .i64 0), (.int .i64 0), (.int .i64 0), (.int .i64 0), (.int .i64 0), (.int .i64 0), (.int .i64 0), (.int .i64 0), (.int .i64 0), (.int .i64 0), (.int .i64 0), (.int .i64 0), (.int .i64 0), (.int .i64 0), (.int .i64 0)] (fun t4 w =>
  fd 0 t3 (fun t10 w =>
  ld1 t10 (fun t11 w =>
  cl Tryz.prog 180 #[t11] (fun t12 w =>
  ldn 8 t3 (fun t14 w =>
  cl Tryz.prog 140 #[t14] (fun t15 w =>
  exq t15 0 (fun t16 w =>
  exq t15 1 (fun t17 w =>
  un .not t17 (fun t19 w =>
  ifb t19
  (bdq [(.int .i64 0), (.int .u8 0), (.int .i64 0), (.int .i64 0), (.int .i64 0), (.int .i64 0), (.int .i64 0), (.slice none 0 0), (.int .i64 0), (.int .i64 0), (.int .i64 0), (.slice none 0 0), (.int .i64 0), (.int .i64 0), (.int .i64 0), (.int .i64 0), (.int .i64 0), (.int .i64 0), (.slice none 0 0), (.int .i64 0), (.int .i64 0), (.int .i64 0), (.int .i64 0), (.int .i64 0), (.int .i64 0), (.int .i64 0), (.int .i64 0), (.int .i64 0), (.int .i64 0), (.int .i64 0), (.int .i64 0), (.int .i64 0), (.int .i64 0), (.int .i64 0)] [] (fun t20 w =>
  bdq [(.int .i64 0), (.string ⟨#[]⟩)] [(some (0, 1), (.int .i64 1)), (some (1, 1), t12)] (fun t22 w =>
  nw 157 (t22).cells (fun t23 w =>
  stn 34 t4 t20 (fun w =>
  ldn 34 t4 (fun r0 _ =>
  K (.tuple #[r0, (.iface 155 t23)]) w) w) w) w) w) w)
  (nck t0 (fun t27 w =>
  fd 0 t27 (fun t28 w =>
  ld1 t28 (fun t29 w =>
  cdy Tryz.prog t29 #[t16] (fun t31 w =>
  cl Tryz.prog 45 #[t31] (fun t32 w =>
  exq t32 0 (fun t33 w =>
  exq t32 1 (fun t34 w =>
  nw 94 #[(.int .i64 0), (.int .u8 0), (.int .i64 0), (.int .i64 0), (.int .i64 0), (.int .i64 0), (.int .i64 0), (.slice none 0 0), (.int .i64 0), (.int .i64 0), (.int .i64 0), (.slice none 0 0), (.int .i64 0), (.int .i64 0), (.int .i64 0), (.int .i64 0), (.int .i64 0), (.int .i64 0), (.slice none 0 0), (.int .i64 0), (.int .i64 0), (.int .i64 0), (.int .i64 0), (.int .i64 0), (.int .i64 0), (.int .i64 0), (.int .i64 0), (.int .i64 0), (.int .i64 0), (.int .i64 0), (.int .i64 0), (.int .i64 0), (.int .i64 0), (.int .i64 0)] (fun t9 w =>
  stn 34 t9 t33 (fun w =>
  un .not t34 (fun t36 w =>
  ifb t36
  (bdq [(.int .i64 0), (.int .u8 0), (.int .i64 0), (.int .i64 0), (.int .i64 0), (.int .i64 0), (.int .i64 0), (.slice none 0 0), (.int .i64 0), (.int .i64 0), (.int .i64 0), (.slice none 0 0), (.int .i64 0), (.int .i64 0), (.int .i64 0), (.int .i64 0), (.int .i64 0), (.int .i64 0), (.slice none 0 0), (.int .i64 0), (.int .i64 0), (.int .i64 0), (.int .i64 0), (.int .i64 0), (.int .i64 0), (.int .i64 0), (.int .i64 0), (.int .i64 0), (.int .i64 0), (.int .i64 0), (.int .i64 0), (.int .i64 0), (.int .i64 0), (.int .i64 0)] [] (fun t37 w =>
  boS .add t12 (.string ⟨#[58, 32, 114, 101, 97, 100, 105, 110, 103, 32, 116, 104, 101, 32, 114, 101, 112, 108, 121]⟩) (fun t39 w =>
  bdq [(.int .i64 0), (.string ⟨#[]⟩)] [(some (0, 1), (.int .i64 1)), (some (1, 1), t39)] (fun t40 w =>
  nw 157 (t40).cells (fun t41 w =>
  stn 34 t4 t37 (fun w =>
  ldn 34 t4 (fun r0 _ =>
  K (.tuple #[r0, (.iface 155 t41)]) w) w) w) w) w) w) w)
  (fd 0 t9 (fun t43 w =>
  ld1 t43 (fun t44 w =>
  boI .neq t44 (.int .i64 0) (fun t45 w =>
  s130_p4 K t3 t4 t12 t9 t45 w) w) w) w)) w) w) w) w) w) w) w) w) w) w)) w) w) w) w) w) w) w) w) w) w
def s130_p5_den (K : Value → World → Prop) : (Nat → Value) → World → Prop := denL Tryz.prog [(cd (Tryz.f130.body.getD .skip) [0]), (cd (Tryz.f130.body.getD .skip) [1, 0]), (cd (Tryz.f130.body.getD .skip) [1, 1, 0]), (cd (Tryz.f130.body.getD .skip) [1, 1, 1, 0, 0]), (cd (Tryz.f130.body.getD .skip) [1, 1, 1, 0, 1]), (cd (Tryz.f130.body.getD .skip) [1, 1, 1, 1, 0]), (cd (Tryz.f130.body.getD .skip) [1, 1, 1, 1, 1, 0, 0]), (cd (Tryz.f130.body.getD .skip) [1, 1, 1, 1, 1, 0, 1]), (cd (Tryz.f130.body.getD .skip) [1, 1, 1, 1, 1, 1, 0, 0])] (s130_p4_den K) (fun i => (fun _ _ => False)) (s130_R K)
theorem s130_p5_ok (K : Value → World → Prop) (s : Nat → Value) (w : World) (h : s130_p5 K (s 0) (s 1) w) : Tr (s130_p5_den K s w) :=
  tr_simple (P := Tryz.prog) (codes := [(cd (Tryz.f130.body.getD .skip) [0]), (cd (Tryz.f130.body.getD .skip) [1, 0]), (cd (Tryz.f130.body.getD .skip) [1, 1, 0]), (cd (Tryz.f130.body.getD .skip) [1, 1, 1, 0, 0]), (cd (Tryz.f130.body.getD .skip) [1, 1, 1, 0, 1]), (cd (Tryz.f130.body.getD .skip) [1, 1, 1, 1, 0]), (cd (Tryz.f130.body.getD .skip) [1, 1, 1, 1, 1, 0, 0]), (cd (Tryz.f130.body.getD .skip) [1, 1, 1, 1, 1, 0, 1]), (cd (Tryz.f130.body.getD .skip) [1, 1, 1, 1, 1, 1, 0, 0])]) (N := (fun s w => s130_p4 K (s 3) (s 4) (s 6) (s 9) (s 45) w)) (N' := (s130_p4_den K)) (X := (fun i => (fun _ _ => False))) (X' := (fun i => (fun _ _ => False))) (R := s130_R K) (s := s) (w := w) (p := s130_p5 K (s 0) (s 1) w) (q := s130_p5_den K s w) (fun s w h => s130_p4_ok K s w @h) (fun i => tr_id) (by kernel_rfl) (by kernel_rfl) @h
/-- the call, from the text -/
theorem c130 (t0 t1 : Value) {K : Value → World → Prop} {w : World} (h : s130_p5 K t0 t1 w) : cl Tryz.prog 130 #[t0, t1] K w :=
  calls_of_tr (c := (Tryz.f130.body.getD .skip)) (fn := Tryz.f130) (q := s130_p5_den K (st0 #[t0, t1]) w) Tryz.func130 (by kernel_rfl) (by kernel_rfl) (Nat.le_of_ble_eq_true (by kernel_rfl)) (by kernel_rfl) (by kernel_rfl) (s130_p5_ok K (st0 #[t0, t1]) w @h)

/-! ### function 41 : (*e2e.engine.Client).All -/
def s41_R (K : Value → World → Prop) (s : Nat → Value) (w : World) : Prop := retv Tryz.prog s Tryz.f41.results.toList (fun vs => K (pack vs) w) w
def s41_p1 (K : Value → World → Prop) (t4 : Value) (w : World) : Prop :=
  K (.tuple #[t4, .nilIface]) w
def s41_p1_den (K : Value → World → Prop) : (Nat → Value) → World → Prop := denL Tryz.prog [(cd (Tryz.f41.body.getD .skip) [1, 1, 1, 0]), (cd (Tryz.f41.body.getD .skip) [1, 1, 1, 1])] (fun _ _ => False) (fun i => (fun _ _ => False)) (s41_R K)
theorem s41_p1_ok (K : Value → World → Prop) (s : Nat → Value) (w : World) (h : s41_p1 K (s 4) w) : Tr (s41_p1_den K s w) :=
  tr_simple (P := Tryz.prog) (codes := [(cd (Tryz.f41.body.getD .skip) [1, 1, 1, 0]), (cd (Tryz.f41.body.getD .skip) [1, 1, 1, 1])]) (N := (fun _ _ => False)) (N' := (fun _ _ => False)) (X := (fun i => (fun _ _ => False))) (X' := (fun i => (fun _ _ => False))) (R := s41_R K) (s := s) (w := w) (p := s41_p1 K (s 4) w) (q := s41_p1_den K s w) tr_id (fun i => tr_id) (by kernel_rfl) (by kernel_rfl) @h
def s41_p2 (K : Value → World → Prop) (B1 : List Value → World → Prop) (t0 t4 t5 : Value) (w : World) : Prop :=
  boI .neq t5 (.int .i64 0) (fun t9 w =>
  ifb t9
  (bdq [(.int .u8 0), (.int .i64 0), (.int .i64 0), (.int .i64 0), (.int .i64 0), (.int .i64 0), (.int .i64 0), (.slice none 0 0)] [(some (0, 1), (.int .u8 17)), (some (1, 1), t5)] (fun t13 w =>
  cl Tryz.prog 130 #[t0, t13] (fun t14 w =>
  exq t14 0 (fun t15 w =>
  exq t14 1 (fun t16 w =>
  nw 94 #[(.int .i64 0), (.int .u8 0), (.int .i64 0), (.int .i64 0), (.int .i64 0), (.int .i64 0), (.int .i64 0), (.slice none 0 0), (.int .i64 0), (.int .i64 0), (.int .i64 0), (.slice none 0 0), (.int .i64 0), (.int .i64 0), (.int .i64 0), (.int .i64 0), (.int .i64 0), (.int .i64 0), (.slice none 0 0), (.int .i64 0), (.int .i64 0), (.int .i64 0), (.int .i64 0), (.int .i64 0), (.int .i64 0), (.int .i64 0), (.int .i64 0), (.int .i64 0), (.int .i64 0), (.int .i64 0), (.int .i64 0), (.int .i64 0), (.int .i64 0), (.int .i64 0)] (fun t6 w =>
  stn 34 t6 t15 (fun w =>
  boF Tryz.prog true .neq t16 .nilIface (fun t18 w =>
  ifb t18
  (K (.tuple #[(.slice none 0 0), t16]) w)
  (fd 12 t6 (fun t20 w =>
  ld1 t20 (fun t21 w =>
  boI .neq t21 (.int .i64 0) (fun t22 w =>
  gd t22 true (fd 12 t6) (fun t24 w =>
  gd t22 true (ld1 t24) (fun t25 w =>
  gd t22 true (fun K w => K t5 w) (fun t26 w =>
  gd t22 true (boI .leq t25 t26) (fun t27 w =>
  pk t22 t27 (.bool false) (fun t28 w =>
  ifb t28
  (bdq [(.int .i64 0), (.string ⟨#[]⟩)] [(some (0, 1), (.int .i64 1)), (some (1, 1), (.string ⟨#[108, 105, 115, 116, 58, 32, 116, 104, 101, 32, 112, 97, 103, 101, 115, 32, 100, 111, 32, 110, 111, 116, 32, 97, 100, 118, 97, 110, 99, 101]⟩))] (fun t29 w =>
  nw 157 (t29).cells (fun t30 w =>
  K (.tuple #[(.slice none 0 0), (.iface 155 t30)]) w) w) w)
  (fd 11 t6 (fun t33 w =>
  ld1 t33 (fun t34 w =>
  apq 85 [(.int .i64 0), (.int .i64 0), (.int .i64 0), (.int .i64 0), (.int .i64 0), (.int .i64 0), (.slice none 0 0)] 72 t4 t34 (fun t35 w =>
  fd 12 t6 (fun t36 w =>
  ld1 t36 (fun t37 w =>
  B1 [t0, t35, t37] w) w) w) w) w) w)) w) w) w) w) w) w) w) w)) w) w) w) w) w) w) w)
  (s41_p1 K t4 w)) w
def s41_p2_den (K : Value → World → Prop) (M1 : (Nat → Value) → World → Prop) : (Nat → Value) → World → Prop := denL Tryz.prog [(cd (Tryz.f41.body.getD .skip) [1, 1, 0, 1, 0, 0, 0, 0]), (cd (Tryz.f41.body.getD .skip) [1, 1, 0, 1, 0, 0, 0, 1]), (cd (Tryz.f41.body.getD .skip) [1, 1, 0, 1, 0, 0, 1])] M1 (fun i => (bif Nat.beq i 0 then (s41_p1_den K) else (fun _ _ => False))) (s41_R K)
theorem s41_p2_ok (K : Value → World → Prop) (B1 : List Value → World → Prop) (s : Nat → Value) (w : World) (h : s41_p2 K B1 (s 0) (s 4) (s 5) w) : Tr (s41_p2_den K (fun s w => B1 [s 0, s 4, s 5] w) s w) :=
  tr_simple (P := Tryz.prog) (codes := [(cd (Tryz.f41.body.getD .skip) [1, 1, 0, 1, 0, 0, 0, 0]), (cd (Tryz.f41.body.getD .skip) [1, 1, 0, 1, 0, 0, 0, 1]), (cd (Tryz.f41.body.getD .skip) [1, 1, 0, 1, 0, 0, 1])]) (N := (fun s w => B1 [s 0, s 4, s 5] w)) (N' := (fun s w => B1 [s 0, s 4, s 5] w)) (X := (fun i => (bif Nat.beq i 0 then (fun s w => s41_p1 K (s 4) w) else (fun _ _ => False)))) (X' := (fun i => (bif Nat.beq i 0 then (s41_p1_den K) else (fun _ _ => False)))) (R := s41_R K) (s := s) (w := w) (p := s41_p2 K B1 (s 0) (s 4) (s 5) w) (q := s41_p2_den K (fun s w => B1 [s 0, s 4, s 5] w) s w) tr_id (fun i => (tr_bif (fun s w h => s41_p1_ok K s w @h) tr_id)) (by kernel_rfl) (by kernel_rfl) @h
def s41_p3_F (K : Value → World → Prop) (B1 : List Value → World → Prop) (l : List Value) (w : World) : Prop :=
  match l with
  | [t0, t4, t5] => s41_p2 K B1 t0 t4 t5 w
  | _ => False
theorem s41_p3_Fe {K : Value → World → Prop} {B1 : List Value → World → Prop} {t0 t4 t5 : Value} {w : World} : s41_p3_F K B1 [t0, t4, t5] w = s41_p2 K B1 t0 t4 t5 w := by kernel_rfl
def s41_p3 (K : Value → World → Prop) (t0 t4 t5 : Value) (w : World) : Prop :=
  LoopL (s41_p3_F K) [t0, t4, t5] w
def s41_p3_den (K : Value → World → Prop) : (Nat → Value) → World → Prop := fun s w => LoopP (fun M1 s w => s41_p2_den K M1 s w) s w
theorem s41_p3_ok (K : Value → World → Prop) (s : Nat → Value) (w : World) (h : s41_p3 K (s 0) (s 4) (s 5) w) : Tr (s41_p3_den K s w) :=
  tr_loop (G := fun N' s w => s41_p2_den K N' s w) (F := s41_p3_F K) (sel := fun s => [s 0, s 4, s 5]) (s := s) (w := w) (p := s41_p3 K (s 0) (s 4) (s 5) w) (q := s41_p3_den K s w) (fun B s w h => s41_p2_ok K B s w @h) (by kernel_rfl) (by kernel_rfl) @h
def s41_p4 (K : Value → World → Prop) (t0 : Value) (w : World) : Prop :=
  s41_p3 K t0 (.slice none 0 0) (.int .i64 1) w
def s41_p4_den (K : Value → World → Prop) : (Nat → Value) → World → Prop := denL Tryz.prog [(cd (Tryz.f41.body.getD .skip) [0]), (cd (Tryz.f41.body.getD .skip) [1, 0]), (cd (Tryz.f41.body.getD .skip) [1, 1, 0, 0])] (s41_p3_den K) (fun i => (fun _ _ => False)) (s41_R K)
theorem s41_p4_ok (K : Value → World → Prop) (s : Nat → Value) (w : World) (h : s41_p4 K (s 0) w) : Tr (s41_p4_den K s w) :=
  tr_simple (P := Tryz.prog) (codes := [(cd (Tryz.f41.body.getD .skip) [0]), (cd (Tryz.f41.body.getD .skip) [1, 0]), (cd (Tryz.f41.body.getD .skip) [1, 1, 0, 0])]) (N := (fun s w => s41_p3 K (s 0) (s 4) (s 5) w)) (N' := (s41_p3_den K)) (X := (fun i => (fun _ _ => False))) (X' := (fun i => (fun _ _ => False))) (R := s41_R K) (s := s) (w := w) (p := s41_p4 K (s 0) w) (q := s41_p4_den K s w) (fun s w h => s41_p3_ok K s w @h) (fun i => tr_id) (by kernel_rfl) (by kernel_rfl) @h
/-- the call, from the text -/
theorem c41 (t0 : Value) {K : Value → World → Prop} {w : World} (h : s41_p4 K t0 w) : cl Tryz.prog 41 #[t0] K w :=
  calls_of_tr (c := (Tryz.f41.body.getD .skip)) (fn := Tryz.f41) (q := s41_p4_den K (st0 #[t0]) w) Tryz.func41 (by kernel_rfl) (by kernel_rfl) (Nat.le_of_ble_eq_true (by kernel_rfl)) (by kernel_rfl) (by kernel_rfl) (s41_p4_ok K (st0 #[t0]) w @h)

/-! ### function 42 : (*e2e.engine.Client).Clock -/
def s42_R (K : Value → World → Prop) (s : Nat → Value) (w : World) : Prop := retv Tryz.prog s Tryz.f42.results.toList (fun vs => K (pack vs) w) w
def s42_p1 (K : Value → World → Prop) (t2 t3 t4 t5 : Value) (w : World) : Prop :=
  K (.tuple #[t2, t3, t4, t5]) w
def s42_p1_den (K : Value → World → Prop) : (Nat → Value) → World → Prop := denL Tryz.prog [(cd (Tryz.f42.body.getD .skip) [1, 1, 1])] (fun _ _ => False) (fun i => (fun _ _ => False)) (s42_R K)
theorem s42_p1_ok (K : Value → World → Prop) (s : Nat → Value) (w : World) (h : s42_p1 K (s 2) (s 3) (s 4) (s 5) w) : Tr (s42_p1_den K s w) :=
  tr_simple (P := Tryz.prog) (codes := [(cd (Tryz.f42.body.getD .skip) [1, 1, 1])]) (N := (fun _ _ => False)) (N' := (fun _ _ => False)) (X := (fun i => (fun _ _ => False))) (X' := (fun i => (fun _ _ => False))) (R := s42_R K) (s := s) (w := w) (p := s42_p1 K (s 2) (s 3) (s 4) (s 5) w) (q := s42_p1_den K s w) tr_id (fun i => tr_id) (by kernel_rfl) (by kernel_rfl) @h
def s42_p2_d (K : Value → World → Prop) (t5 t6 : Value) (w0 w : World) : Prop :=
  fd 6 t6 (fun t13 _ =>
  ld1 t13 (fun t14 _ =>
  fd 19 t6 (fun t15 _ =>
  ld1 t15 (fun t16 _ =>
  fd 20 t6 (fun t17 _ =>
  ld1 t17 (fun t18 _ =>
  Below w0.heap.size w0 w ∧
  s42_p1 K t14 t16 t18 t5 w) w0) w0) w0) w0) w0) w0
def s42_p2 (K : Value → World → Prop) (t5 t6 : Value) (w : World) : Prop := s42_p2_d K t5 t6 (drw w) (drw w)
def s42_p2_den (K : Value → World → Prop) : (Nat → Value) → World → Prop := denL Tryz.prog [(cd (Tryz.f42.body.getD .skip) [1, 1, 0])] (s42_p1_den K) (fun i => (fun _ _ => False)) (s42_R K)
theorem s42_p2_ok (K : Value → World → Prop) (s : Nat → Value) (w : World) (h : s42_p2 K (s 5) (s 6) w) : Tr (s42_p2_den K s w) :=
  tr_draw (P := Tryz.prog) (ops := (ro (cd (Tryz.f42.body.getD .skip) [1, 1, 0]))) (ms := [0, 1, 0, 4, 0, 16, 0, 3, 143, 447, 1023]) (cs := [0, 1, 2, 3, 4, 5, 7, 8, 9]) (N := (fun s w => s42_p1 K (s 2) (s 3) (s 4) (s 5) w)) (N' := (s42_p1_den K)) (s := s) (w := w) (p := s42_p2 K (s 5) (s 6) w) (q := s42_p2_den K s w) (by kernel_rfl) (by kernel_rfl) (fun s w h => s42_p1_ok K s w @h) (by kernel_rfl) (by kernel_rfl) @h
def s42_p3 (K : Value → World → Prop) (t0 : Value) (w : World) : Prop :=
  bdq [(.int .u8 0), (.int .i64 0), (.int .i64 0), (.int .i64 0), (.int .i64 0), (.int .i64 0), (.int .i64 0), (.slice none 0 0)] [(some (0, 1), (.int .u8 20))] (fun t9 w =>
  cl Tryz.prog 130 #[t0, t9] (fun t10 w =>
  exq t10 0 (fun t11 w =>
  exq t10 1 (fun t12 w =>
  nw 94 #[(.int .i64 0), (.int .u8 0), (.int .i64 0), (.int .i64 0), (.int .i64 0), (.int .i64 0), (.int .i64 0), (.slice none 0 0), (.int .i64 0), (.int .i64 0), (.int .i64 0), (.slice none 0 0), (.int .i64 0), (.int .i64 0), (.int .i64 0), (.int .i64 0), (.int .i64 0), (.int .i64 0), (.slice none 0 0), (.int .i64 0), (.int .i64 0), (.int .i64 0), (.int .i64 0), (.int .i64 0), (.int .i64 0), (.int .i64 0), (.int .i64 0), (.int .i64 0), (.int .i64 0), (.int .i64 0), (.int .i64 0), (.int .i64 0), (.int .i64 0), (.int .i64 0)] (fun t6 w =>
  stn 34 t6 t11 (fun w =>
  s42_p2 K t12 t6 w) w) w) w) w) w) w
def s42_p3_den (K : Value → World → Prop) : (Nat → Value) → World → Prop := denL Tryz.prog [(cd (Tryz.f42.body.getD .skip) [0]), (cd (Tryz.f42.body.getD .skip) [1, 0])] (s42_p2_den K) (fun i => (fun _ _ => False)) (s42_R K)
theorem s42_p3_ok (K : Value → World → Prop) (s : Nat → Value) (w : World) (h : s42_p3 K (s 0) w) : Tr (s42_p3_den K s w) :=
  tr_simple (P := Tryz.prog) (codes := [(cd (Tryz.f42.body.getD .skip) [0]), (cd (Tryz.f42.body.getD .skip) [1, 0])]) (N := (fun s w => s42_p2 K (s 5) (s 6) w)) (N' := (s42_p2_den K)) (X := (fun i => (fun _ _ => False))) (X' := (fun i => (fun _ _ => False))) (R := s42_R K) (s := s) (w := w) (p := s42_p3 K (s 0) w) (q := s42_p3_den K s w) (fun s w h => s42_p2_ok K s w @h) (fun i => tr_id) (by kernel_rfl) (by kernel_rfl) @h
/-- the call, from the text -/
theorem c42 (t0 : Value) {K : Value → World → Prop} {w : World} (h : s42_p3 K t0 w) : cl Tryz.prog 42 #[t0] K w :=
  calls_of_tr (c := (Tryz.f42.body.getD .skip)) (fn := Tryz.f42) (q := s42_p3_den K (st0 #[t0]) w) Tryz.func42 (by kernel_rfl) (by kernel_rfl) (Nat.le_of_ble_eq_true (by kernel_rfl)) (by kernel_rfl) (by kernel_rfl) (s42_p3_ok K (st0 #[t0]) w @h)

/-! ### function 112 : (*e2e.engine.Client).Slot -/
def s112_R (K : Value → World → Prop) (s : Nat → Value) (w : World) : Prop := retv Tryz.prog s Tryz.f112.results.toList (fun vs => K (pack vs) w) w
def s112_p1 (K : Value → World → Prop) (t0 t1 t2 : Value) (w : World) : Prop :=
  nw 94 #[(.int .i64 0), (.int .u8 0), (.int .i64 0), (.int .i64 0), (.int .i64 0), (.int .i64 0), (.int .i64 0), (.slice none 0 0), (.int .i64 0), (.int .i64 0), (.int .i64 0), (.slice none 0 0), (.int .i64 0), (.int .i64 0), (.int .i64 0), (.int .i64 0), (.int .i64 0), (.int .i64 0), (.slice none 0 0), (.int .i64 0), (.int .i64 0), (.int .i64 0), (.int .i64 0), (.int .i64 0), (.int .i64 0), (.int .i64 0), (.int .i64 0), (.int .i64 0), (.int .i64 0), (.int .i64 0), (.int .i64 0), (.int .i64 0), (.int .i64 0), (.int .i64 0)] (fun t6 w =>
  bdq [(.int .u8 0), (.int .i64 0), (.int .i64 0), (.int .i64 0), (.int .i64 0), (.int .i64 0), (.int .i64 0), (.slice none 0 0)] [(some (0, 1), (.int .u8 18)), (some (2, 1), t1), (some (3, 1), t2)] (fun t11 w =>
  cl Tryz.prog 130 #[t0, t11] (fun t12 w =>
  exq t12 0 (fun t13 w =>
  exq t12 1 (fun t14 w =>
  stn 34 t6 t13 (fun w =>
  ldn 34 t6 (fun r0 _ =>
  K (.tuple #[r0, t14]) w) w) w) w) w) w) w) w
def s112_p1_den (K : Value → World → Prop) : (Nat → Value) → World → Prop := denL Tryz.prog [(cd (Tryz.f112.body.getD .skip) [0]), (cd (Tryz.f112.body.getD .skip) [1, 0]), (cd (Tryz.f112.body.getD .skip) [1, 1])] (fun _ _ => False) (fun i => (fun _ _ => False)) (s112_R K)
theorem s112_p1_ok (K : Value → World → Prop) (s : Nat → Value) (w : World) (h : s112_p1 K (s 0) (s 1) (s 2) w) : Tr (s112_p1_den K s w) :=
  tr_simple (P := Tryz.prog) (codes := [(cd (Tryz.f112.body.getD .skip) [0]), (cd (Tryz.f112.body.getD .skip) [1, 0]), (cd (Tryz.f112.body.getD .skip) [1, 1])]) (N := (fun _ _ => False)) (N' := (fun _ _ => False)) (X := (fun i => (fun _ _ => False))) (X' := (fun i => (fun _ _ => False))) (R := s112_R K) (s := s) (w := w) (p := s112_p1 K (s 0) (s 1) (s 2) w) (q := s112_p1_den K s w) tr_id (fun i => tr_id) (by kernel_rfl) (by kernel_rfl) @h
/-- the call, from the text -/
theorem c112 (t0 t1 t2 : Value) {K : Value → World → Prop} {w : World} (h : s112_p1 K t0 t1 t2 w) : cl Tryz.prog 112 #[t0, t1, t2] K w :=
  calls_of_tr (c := (Tryz.f112.body.getD .skip)) (fn := Tryz.f112) (q := s112_p1_den K (st0 #[t0, t1, t2]) w) Tryz.func112 (by kernel_rfl) (by kernel_rfl) (Nat.le_of_ble_eq_true (by kernel_rfl)) (by kernel_rfl) (by kernel_rfl) (s112_p1_ok K (st0 #[t0, t1, t2]) w @h)

/-! ### function 43 : (*e2e.engine.Client).Line -/
def s43_R (K : Value → World → Prop) (s : Nat → Value) (w : World) : Prop := retv Tryz.prog s Tryz.f43.results.toList (fun vs => K (pack vs) w) w
def s43_p1 (K : Value → World → Prop) (t0 t1 : Value) (w : World) : Prop :=
  bdq [(.int .u8 0), (.int .i64 0), (.int .i64 0), (.int .i64 0), (.int .i64 0), (.int .i64 0), (.int .i64 0), (.slice none 0 0)] [(some (0, 1), (.int .u8 19)), (some (2, 1), t1)] (fun t11 w =>
  cl Tryz.prog 130 #[t0, t11] (fun t12 w =>
  exq t12 0 (fun t13 w =>
  exq t12 1 (fun t14 w =>
  nw 94 #[(.int .i64 0), (.int .u8 0), (.int .i64 0), (.int .i64 0), (.int .i64 0), (.int .i64 0), (.int .i64 0), (.slice none 0 0), (.int .i64 0), (.int .i64 0), (.int .i64 0), (.slice none 0 0), (.int .i64 0), (.int .i64 0), (.int .i64 0), (.int .i64 0), (.int .i64 0), (.int .i64 0), (.slice none 0 0), (.int .i64 0), (.int .i64 0), (.int .i64 0), (.int .i64 0), (.int .i64 0), (.int .i64 0), (.int .i64 0), (.int .i64 0), (.int .i64 0), (.int .i64 0), (.int .i64 0), (.int .i64 0), (.int .i64 0), (.int .i64 0), (.int .i64 0)] (fun t6 w =>
  stn 34 t6 t13 (fun w =>
  fd 18 t6 (fun t15 w =>
  ld1 t15 (fun t16 w =>
  K (.tuple #[t16, t14]) w) w) w) w) w) w) w) w) w
def s43_p1_den (K : Value → World → Prop) : (Nat → Value) → World → Prop := denL Tryz.prog [(cd (Tryz.f43.body.getD .skip) [0]), (cd (Tryz.f43.body.getD .skip) [1, 0]), (cd (Tryz.f43.body.getD .skip) [1, 1, 0]), (cd (Tryz.f43.body.getD .skip) [1, 1, 1])] (fun _ _ => False) (fun i => (fun _ _ => False)) (s43_R K)
theorem s43_p1_ok (K : Value → World → Prop) (s : Nat → Value) (w : World) (h : s43_p1 K (s 0) (s 1) w) : Tr (s43_p1_den K s w) :=
  tr_simple (P := Tryz.prog) (codes := [(cd (Tryz.f43.body.getD .skip) [0]), (cd (Tryz.f43.body.getD .skip) [1, 0]), (cd (Tryz.f43.body.getD .skip) [1, 1, 0]), (cd (Tryz.f43.body.getD .skip) [1, 1, 1])]) (N := (fun _ _ => False)) (N' := (fun _ _ => False)) (X := (fun i => (fun _ _ => False))) (X' := (fun i => (fun _ _ => False))) (R := s43_R K) (s := s) (w := w) (p := s43_p1 K (s 0) (s 1) w) (q := s43_p1_den K s w) tr_id (fun i => tr_id) (by kernel_rfl) (by kernel_rfl) @h
/-- the call, from the text -/
theorem c43 (t0 t1 : Value) {K : Value → World → Prop} {w : World} (h : s43_p1 K t0 t1 w) : cl Tryz.prog 43 #[t0, t1] K w :=
  calls_of_tr (c := (Tryz.f43.body.getD .skip)) (fn := Tryz.f43) (q := s43_p1_den K (st0 #[t0, t1]) w) Tryz.func43 (by kernel_rfl) (by kernel_rfl) (Nat.le_of_ble_eq_true (by kernel_rfl)) (by kernel_rfl) (by kernel_rfl) (s43_p1_ok K (st0 #[t0, t1]) w @h)

/-! ### function 46 : (*e2e.engine.Client).Get -/
def s46_R (K : Value → World → Prop) (s : Nat → Value) (w : World) : Prop := retv Tryz.prog s Tryz.f46.results.toList (fun vs => K (pack vs) w) w
def s46_p1 (K : Value → World → Prop) (t0 t1 : Value) (w : World) : Prop :=
  nw 85 #[(.int .i64 0), (.int .i64 0), (.int .i64 0), (.int .i64 0), (.int .i64 0), (.int .i64 0), (.slice none 0 0)] (fun t4 w =>
  bdq [(.int .u8 0), (.int .i64 0), (.int .i64 0), (.int .i64 0), (.int .i64 0), (.int .i64 0), (.int .i64 0), (.slice none 0 0)] [(some (0, 1), (.int .u8 16)), (some (1, 1), t1)] (fun t11 w =>
  cl Tryz.prog 130 #[t0, t11] (fun t12 w =>
  exq t12 0 (fun t13 w =>
  exq t12 1 (fun t14 w =>
  nw 94 #[(.int .i64 0), (.int .u8 0), (.int .i64 0), (.int .i64 0), (.int .i64 0), (.int .i64 0), (.int .i64 0), (.slice none 0 0), (.int .i64 0), (.int .i64 0), (.int .i64 0), (.slice none 0 0), (.int .i64 0), (.int .i64 0), (.int .i64 0), (.int .i64 0), (.int .i64 0), (.int .i64 0), (.slice none 0 0), (.int .i64 0), (.int .i64 0), (.int .i64 0), (.int .i64 0), (.int .i64 0), (.int .i64 0), (.int .i64 0), (.int .i64 0), (.int .i64 0), (.int .i64 0), (.int .i64 0), (.int .i64 0), (.int .i64 0), (.int .i64 0), (.int .i64 0)] (fun t6 w =>
  stn 34 t6 t13 (fun w =>
  boF Tryz.prog true .neq t14 .nilIface (fun t16 w =>
  ifb t16
  (bdq [(.int .i64 0), (.int .i64 0), (.int .i64 0), (.int .i64 0), (.int .i64 0), (.int .i64 0), (.slice none 0 0)] [] (fun t17 w =>
  stn 7 t4 t17 (fun w =>
  ldn 7 t4 (fun r0 _ =>
  K (.tuple #[r0, t14]) w) w) w) w)
  (fd 11 t6 (fun t19 w =>
  ld1 t19 (fun t20 w =>
  ixs 7 t20 (.int .i64 0) (fun t21 w =>
  ldn 7 t21 (fun t22 w =>
  stn 7 t4 t22 (fun w =>
  ldn 7 t4 (fun r0 _ =>
  K (.tuple #[r0, .nilIface]) w) w) w) w) w) w) w)) w) w) w) w) w) w) w) w
def s46_p1_den (K : Value → World → Prop) : (Nat → Value) → World → Prop := denL Tryz.prog [(cd (Tryz.f46.body.getD .skip) [0]), (cd (Tryz.f46.body.getD .skip) [1, 0]), (cd (Tryz.f46.body.getD .skip) [1, 1, 0, 0]), (cd (Tryz.f46.body.getD .skip) [1, 1, 0, 1]), (cd (Tryz.f46.body.getD .skip) [1, 1, 1, 0]), (cd (Tryz.f46.body.getD .skip) [1, 1, 1, 1])] (fun _ _ => False) (fun i => (fun _ _ => False)) (s46_R K)
theorem s46_p1_ok (K : Value → World → Prop) (s : Nat → Value) (w : World) (h : s46_p1 K (s 0) (s 1) w) : Tr (s46_p1_den K s w) :=
  tr_simple (P := Tryz.prog) (codes := [(cd (Tryz.f46.body.getD .skip) [0]), (cd (Tryz.f46.body.getD .skip) [1, 0]), (cd (Tryz.f46.body.getD .skip) [1, 1, 0, 0]), (cd (Tryz.f46.body.getD .skip) [1, 1, 0, 1]), (cd (Tryz.f46.body.getD .skip) [1, 1, 1, 0]), (cd (Tryz.f46.body.getD .skip) [1, 1, 1, 1])]) (N := (fun _ _ => False)) (N' := (fun _ _ => False)) (X := (fun i => (fun _ _ => False))) (X' := (fun i => (fun _ _ => False))) (R := s46_R K) (s := s) (w := w) (p := s46_p1 K (s 0) (s 1) w) (q := s46_p1_den K s w) tr_id (fun i => tr_id) (by kernel_rfl) (by kernel_rfl) @h
/-- the call, from the text -/
theorem c46 (t0 t1 : Value) {K : Value → World → Prop} {w : World} (h : s46_p1 K t0 t1 w) : cl Tryz.prog 46 #[t0, t1] K w :=
  calls_of_tr (c := (Tryz.f46.body.getD .skip)) (fn := Tryz.f46) (q := s46_p1_den K (st0 #[t0, t1]) w) Tryz.func46 (by kernel_rfl) (by kernel_rfl) (Nat.le_of_ble_eq_true (by kernel_rfl)) (by kernel_rfl) (by kernel_rfl) (s46_p1_ok K (st0 #[t0, t1]) w @h)

/-! ### function 180 : e2e.engine.OpName -/
def s180_R (K : Value → World → Prop) (s : Nat → Value) (w : World) : Prop := retv Tryz.prog s Tryz.f180.results.toList (fun vs => K (pack vs) w) w
def s180_p1 (K : Value → World → Prop) (t0 : Value) (w : World) : Prop :=
  boI .eql t0 (.int .u8 1) (fun t5 w =>
  ifb t5
  (K (.string ⟨#[104, 111, 108, 100]⟩) w)
  (boI .eql t0 (.int .u8 2) (fun t7 w =>
  ifb t7
  (K (.string ⟨#[99, 111, 110, 102, 105, 114, 109]⟩) w)
  (boI .eql t0 (.int .u8 3) (fun t9 w =>
  ifb t9
  (K (.string ⟨#[99, 97, 110, 99, 101, 108]⟩) w)
  (boI .eql t0 (.int .u8 4) (fun t11 w =>
  ifb t11
  (K (.string ⟨#[99, 104, 101, 99, 107, 32, 105, 110]⟩) w)
  (boI .eql t0 (.int .u8 5) (fun t13 w =>
  ifb t13
  (K (.string ⟨#[114, 101, 98, 111, 111, 107]⟩) w)
  (boI .eql t0 (.int .u8 6) (fun t15 w =>
  ifb t15
  (K (.string ⟨#[106, 111, 105, 110]⟩) w)
  (boI .eql t0 (.int .u8 7) (fun t17 w =>
  ifb t17
  (K (.string ⟨#[108, 101, 97, 118, 101]⟩) w)
  (boI .eql t0 (.int .u8 8) (fun t19 w =>
  ifb t19
  (K (.string ⟨#[114, 101, 100, 101, 101, 109]⟩) w)
  (boI .eql t0 (.int .u8 9) (fun t21 w =>
  ifb t21
  (K (.string ⟨#[116, 105, 99, 107]⟩) w)
  (boI .eql t0 (.int .u8 16) (fun t23 w =>
  ifb t23
  (K (.string ⟨#[103, 101, 116]⟩) w)
  (boI .eql t0 (.int .u8 17) (fun t25 w =>
  ifb t25
  (K (.string ⟨#[108, 105, 115, 116]⟩) w)
  (boI .eql t0 (.int .u8 18) (fun t27 w =>
  ifb t27
  (K (.string ⟨#[115, 108, 111, 116]⟩) w)
  (boI .eql t0 (.int .u8 19) (fun t29 w =>
  ifb t29
  (K (.string ⟨#[108, 105, 110, 101]⟩) w)
  (boI .eql t0 (.int .u8 20) (fun t31 w =>
  ifb t31
  (K (.string ⟨#[99, 108, 111, 99, 107]⟩) w)
  (boI .eql t0 (.int .u8 21) (fun t33 w =>
  ifb t33
  (K (.string ⟨#[102, 105, 110, 100]⟩) w)
  (boI .eql t0 (.int .u8 22) (fun t35 w =>
  ifb t35
  (K (.string ⟨#[113, 117, 111, 116, 101]⟩) w)
  (boI .eql t0 (.int .u8 23) (fun t37 w =>
  ifb t37
  (K (.string ⟨#[99, 111, 117, 110, 116]⟩) w)
  (boI .eql t0 (.int .u8 24) (fun t39 w =>
  ifb t39
  (K (.string ⟨#[112, 108, 97, 99, 101]⟩) w)
  (cvi .i64 t0 (fun t41 w =>
  cl Tryz.prog 124 #[t41] (fun t42 w =>
  boS .add (.string ⟨#[111, 112, 99, 111, 100, 101, 32]⟩) t42 (fun t43 w =>
  K t43 w) w) w) w)) w)) w)) w)) w)) w)) w)) w)) w)) w)) w)) w)) w)) w)) w)) w)) w)) w)) w
def s180_p1_den (K : Value → World → Prop) : (Nat → Value) → World → Prop := denL Tryz.prog [(cd (Tryz.f180.body.getD .skip) [0]), (cd (Tryz.f180.body.getD .skip) [1, 0, 0]), (cd (Tryz.f180.body.getD .skip) [1, 0, 1]), (cd (Tryz.f180.body.getD .skip) [1, 1, 0]), (cd (Tryz.f180.body.getD .skip) [1, 1, 1])] (fun _ _ => False) (fun i => (fun _ _ => False)) (s180_R K)
theorem s180_p1_ok (K : Value → World → Prop) (s : Nat → Value) (w : World) (h : s180_p1 K (s 0) w) : Tr (s180_p1_den K s w) :=
  tr_simple (P := Tryz.prog) (codes := [(cd (Tryz.f180.body.getD .skip) [0]), (cd (Tryz.f180.body.getD .skip) [1, 0, 0]), (cd (Tryz.f180.body.getD .skip) [1, 0, 1]), (cd (Tryz.f180.body.getD .skip) [1, 1, 0]), (cd (Tryz.f180.body.getD .skip) [1, 1, 1])]) (N := (fun _ _ => False)) (N' := (fun _ _ => False)) (X := (fun i => (fun _ _ => False))) (X' := (fun i => (fun _ _ => False))) (R := s180_R K) (s := s) (w := w) (p := s180_p1 K (s 0) w) (q := s180_p1_den K s w) tr_id (fun i => tr_id) (by kernel_rfl) (by kernel_rfl) @h
/-- the call, from the text -/
theorem c180 (t0 : Value) {K : Value → World → Prop} {w : World} (h : s180_p1 K t0 w) : cl Tryz.prog 180 #[t0] K w :=
  calls_of_tr (c := (Tryz.f180.body.getD .skip)) (fn := Tryz.f180) (q := s180_p1_den K (st0 #[t0]) w) Tryz.func180 (by kernel_rfl) (by kernel_rfl) (Nat.le_of_ble_eq_true (by kernel_rfl)) (by kernel_rfl) (by kernel_rfl) (s180_p1_ok K (st0 #[t0]) w @h)

end Go.Proofs.Qxb6500896aGreat
