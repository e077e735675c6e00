import Derived.Test.Qxb6500896aGreatDoorProg
import Derived.Test.Qxb6500896aGreatDoorShTr
namespace Go.Proofs.Qxb6500896aGreatDoor
open Go.Sh Go.RowKit
set_option linter.unusedVariables false
set_option maxRecDepth 100000

/-! ### function 10 : e2e.engine.NewClient -/
def s10_R (K : Value → World → Prop) (s : Nat → Value) (w : World) : Prop := retv Tryz.prog s Tryz.f10.results.toList (fun vs => K (pack vs) w) w
def s10_p1 (K : Value → World → Prop) (t0 : Value) (w : World) : Prop :=
  bdq [.nilFunc] [(some (0, 1), t0)] (fun t4 w =>
  nw 97 (t4).cells (fun t5 w =>
  K t5 w) w) w
def s10_p1_den (K : Value → World → Prop) : (Nat → Value) → World → Prop := denL Tryz.prog [(cd (Tryz.f10.body.getD .skip) [0]), (cd (Tryz.f10.body.getD .skip) [1, 0]), (cd (Tryz.f10.body.getD .skip) [1, 1])] (fun _ _ => False) (fun i => (fun _ _ => False)) (s10_R K)
theorem s10_p1_ok (K : Value → World → Prop) (s : Nat → Value) (w : World) (h : s10_p1 K (s 0) w) : Tr (s10_p1_den K s w) :=
  tr_simple (P := Tryz.prog) (codes := [(cd (Tryz.f10.body.getD .skip) [0]), (cd (Tryz.f10.body.getD .skip) [1, 0]), (cd (Tryz.f10.body.getD .skip) [1, 1])]) (N := (fun _ _ => False)) (N' := (fun _ _ => False)) (X := (fun i => (fun _ _ => False))) (X' := (fun i => (fun _ _ => False))) (R := s10_R K) (s := s) (w := w) (p := s10_p1 K (s 0) w) (q := s10_p1_den K s w) tr_id (fun i => tr_id) (by kernel_rfl) (by kernel_rfl) @h
/-- the call, from the text -/
theorem c10 (t0 : Value) {K : Value → World → Prop} {w : World} (h : s10_p1 K t0 w) : cl Tryz.prog 10 #[t0] K w :=
  calls_of_tr (c := (Tryz.f10.body.getD .skip)) (fn := Tryz.f10) (q := s10_p1_den K (st0 #[t0]) w) Tryz.func10 (by kernel_rfl) (by kernel_rfl) (Nat.le_of_ble_eq_true (by kernel_rfl)) (by kernel_rfl) (by kernel_rfl) (s10_p1_ok K (st0 #[t0]) w @h)

/-! ### function 50 : (*e2e.engine.Client).Call -/
def s50_R (K : Value → World → Prop) (s : Nat → Value) (w : World) : Prop := retv Tryz.prog s Tryz.f50.results.toList (fun vs => K (pack vs) w) w
def s50_p1 (K : Value → World → Prop) (t3 t4 t6 t9 : Value) (w : World) : Prop :=
  fd 1 t9 (fun t53 w =>
  ld1 t53 (fun t54 w =>
  fd 0 t3 (fun t55 w =>
  ld1 t55 (fun t56 w =>
  boI .neq t54 t56 (fun t57 w =>
  ifb t57
  (bdq [(.int .i64 0), (.int .u8 0), (.int .i64 0), (.int .i64 0), (.int .i64 0), (.int .i64 0), (.int .i64 0), (.slice none 0 0), (.int .i64 0), (.int .i64 0), (.int .i64 0), (.slice none 0 0), (.int .i64 0), (.int .i64 0), (.int .i64 0), (.int .i64 0), (.int .i64 0), (.int .i64 0), (.slice none 0 0), (.int .i64 0), (.int .i64 0), (.int .i64 0), (.int .i64 0), (.int .i64 0), (.int .i64 0), (.int .i64 0), (.int .i64 0), (.int .i64 0), (.int .i64 0), (.int .i64 0), (.int .i64 0), (.int .i64 0), (.int .i64 0), (.int .i64 0)] [] (fun t58 w =>
  boS .add t6 (.string ⟨#[58, 32, 114, 101, 112, 108, 121, 32, 116, 111, 32, 97, 110, 111, 116, 104, 101, 114, 32, 114, 101, 113, 117, 101, 115, 116]⟩) (fun t60 w =>
  bdq [(.int .i64 0), (.string ⟨#[]⟩)] [(some (0, 1), (.int .i64 1)), (some (1, 1), t60)] (fun t61 w =>
  nw 112 (t61).cells (fun t62 w =>
  stn 34 t4 t58 (fun w =>
  ldn 34 t4 (fun r0 _ =>
  K (.tuple #[r0, (.iface 110 t62)]) w) w) w) w) w) w) w)
  (ldn 34 t9 (fun t64 w =>
  stn 34 t4 t64 (fun w =>
  ldn 34 t4 (fun r0 _ =>
  K (.tuple #[r0, .nilIface]) w) w) w) w)) w) w) w) w) w
def s50_p1_den (K : Value → World → Prop) : (Nat → Value) → World → Prop := denL Tryz.prog [(cd (Tryz.f50.body.getD .skip) [1, 1, 1, 1, 1, 1, 1, 0, 0]), (cd (Tryz.f50.body.getD .skip) [1, 1, 1, 1, 1, 1, 1, 0, 1]), (cd (Tryz.f50.body.getD .skip) [1, 1, 1, 1, 1, 1, 1, 1, 0]), (cd (Tryz.f50.body.getD .skip) [1, 1, 1, 1, 1, 1, 1, 1, 1])] (fun _ _ => False) (fun i => (fun _ _ => False)) (s50_R K)
theorem s50_p1_ok (K : Value → World → Prop) (s : Nat → Value) (w : World) (h : s50_p1 K (s 3) (s 4) (s 6) (s 9) w) : Tr (s50_p1_den K s w) :=
  tr_simple (P := Tryz.prog) (codes := [(cd (Tryz.f50.body.getD .skip) [1, 1, 1, 1, 1, 1, 1, 0, 0]), (cd (Tryz.f50.body.getD .skip) [1, 1, 1, 1, 1, 1, 1, 0, 1]), (cd (Tryz.f50.body.getD .skip) [1, 1, 1, 1, 1, 1, 1, 1, 0]), (cd (Tryz.f50.body.getD .skip) [1, 1, 1, 1, 1, 1, 1, 1, 1])]) (N := (fun _ _ => False)) (N' := (fun _ _ => False)) (X := (fun i => (fun _ _ => False))) (X' := (fun i => (fun _ _ => False))) (R := s50_R K) (s := s) (w := w) (p := s50_p1 K (s 3) (s 4) (s 6) (s 9) w) (q := s50_p1_den K s w) tr_id (fun i => tr_id) (by kernel_rfl) (by kernel_rfl) @h
def s50_p2 (K : Value → World → Prop) (t4 t5 : Value) (w : World) : Prop :=
  ldn 34 t4 (fun r0 _ =>
  K (.tuple #[r0, t5]) w) w
def s50_p2_den (K : Value → World → Prop) : (Nat → Value) → World → Prop := denL Tryz.prog [(cd (Tryz.f50.body.getD .skip) [1, 1, 1, 1, 1, 1, 0, 1, 0, 1])] (fun _ _ => False) (fun i => (fun _ _ => False)) (s50_R K)
theorem s50_p2_ok (K : Value → World → Prop) (s : Nat → Value) (w : World) (h : s50_p2 K (s 4) (s 5) w) : Tr (s50_p2_den K s w) :=
  tr_simple (P := Tryz.prog) (codes := [(cd (Tryz.f50.body.getD .skip) [1, 1, 1, 1, 1, 1, 0, 1, 0, 1])]) (N := (fun _ _ => False)) (N' := (fun _ _ => False)) (X := (fun i => (fun _ _ => False))) (X' := (fun i => (fun _ _ => False))) (R := s50_R K) (s := s) (w := w) (p := s50_p2 K (s 4) (s 5) w) (q := s50_p2_den K s w) tr_id (fun i => tr_id) (by kernel_rfl) (by kernel_rfl) @h
def s50_p3_d (K : Value → World → Prop) (t4 t6 t9 : Value) (w0 w : World) : Prop :=
  fd 0 t9 (fun t47 _ =>
  (bdq [(.int .i64 0), (.int .u8 0), (.int .i64 0), (.int .i64 0), (.int .i64 0), (.int .i64 0), (.int .i64 0), (.slice none 0 0), (.int .i64 0), (.int .i64 0), (.int .i64 0), (.slice none 0 0), (.int .i64 0), (.int .i64 0), (.int .i64 0), (.int .i64 0), (.int .i64 0), (.int .i64 0), (.slice none 0 0), (.int .i64 0), (.int .i64 0), (.int .i64 0), (.int .i64 0), (.int .i64 0), (.int .i64 0), (.int .i64 0), (.int .i64 0), (.int .i64 0), (.int .i64 0), (.int .i64 0), (.int .i64 0), (.int .i64 0), (.int .i64 0), (.int .i64 0)] [] (fun t46 w =>
  (ld1 t47 (fun t48 w =>
  (bdq [(.int .i64 0), (.string ⟨#[]⟩)] [(some (0, 1), t48), (some (1, 1), t6)] (fun t50 w =>
  (nw 112 (t50).cells (fun t51 w =>
  (stn 34 t4 t46 (fun w =>
  s50_p2 K t4 (.iface 110 t51) w) w) ∧
  (stn 34 t4 t46 (fun w =>
  s50_p2 K t4 (.iface 110 t51) w) w)) w) ∧
  (stn 34 t4 t46 (fun w =>
  nw 112 (t50).cells (fun t51_2 w =>
  s50_p2 K t4 (.iface 110 t51_2) w) w) w)) w) ∧
  (stn 34 t4 t46 (fun w =>
  bdq [(.int .i64 0), (.string ⟨#[]⟩)] [(some (0, 1), t48), (some (1, 1), t6)] (fun t50_2 w =>
  nw 112 (t50_2).cells (fun t51_3 w =>
  s50_p2 K t4 (.iface 110 t51_3) w) w) w) w)) w) ∧
  (stn 34 t4 t46 (fun w =>
  ld1 t47 (fun t48_2 w =>
  bdq [(.int .i64 0), (.string ⟨#[]⟩)] [(some (0, 1), t48_2), (some (1, 1), t6)] (fun t50_3 w =>
  nw 112 (t50_3).cells (fun t51_4 w =>
  s50_p2 K t4 (.iface 110 t51_4) w) w) w) w) w)) w) ∧
  (ld1 t47 (fun t48_3 w =>
  (bdq [(.int .i64 0), (.int .u8 0), (.int .i64 0), (.int .i64 0), (.int .i64 0), (.int .i64 0), (.int .i64 0), (.slice none 0 0), (.int .i64 0), (.int .i64 0), (.int .i64 0), (.slice none 0 0), (.int .i64 0), (.int .i64 0), (.int .i64 0), (.int .i64 0), (.int .i64 0), (.int .i64 0), (.slice none 0 0), (.int .i64 0), (.int .i64 0), (.int .i64 0), (.int .i64 0), (.int .i64 0), (.int .i64 0), (.int .i64 0), (.int .i64 0), (.int .i64 0), (.int .i64 0), (.int .i64 0), (.int .i64 0), (.int .i64 0), (.int .i64 0), (.int .i64 0)] [] (fun t46_2 w =>
  (bdq [(.int .i64 0), (.string ⟨#[]⟩)] [(some (0, 1), t48_3), (some (1, 1), t6)] (fun t50_4 w =>
  (nw 112 (t50_4).cells (fun t51_5 w =>
  (stn 34 t4 t46_2 (fun w =>
  s50_p2 K t4 (.iface 110 t51_5) w) w) ∧
  (stn 34 t4 t46_2 (fun w =>
  s50_p2 K t4 (.iface 110 t51_5) w) w)) w) ∧
  (stn 34 t4 t46_2 (fun w =>
  nw 112 (t50_4).cells (fun t51_6 w =>
  s50_p2 K t4 (.iface 110 t51_6) w) w) w)) w) ∧
  (stn 34 t4 t46_2 (fun w =>
  bdq [(.int .i64 0), (.string ⟨#[]⟩)] [(some (0, 1), t48_3), (some (1, 1), t6)] (fun t50_5 w =>
  nw 112 (t50_5).cells (fun t51_7 w =>
  s50_p2 K t4 (.iface 110 t51_7) w) w) w) w)) w) ∧
  (bdq [(.int .i64 0), (.string ⟨#[]⟩)] [(some (0, 1), t48_3), (some (1, 1), t6)] (fun t50_6 w =>
  (bdq [(.int .i64 0), (.int .u8 0), (.int .i64 0), (.int .i64 0), (.int .i64 0), (.int .i64 0), (.int .i64 0), (.slice none 0 0), (.int .i64 0), (.int .i64 0), (.int .i64 0), (.slice none 0 0), (.int .i64 0), (.int .i64 0), (.int .i64 0), (.int .i64 0), (.int .i64 0), (.int .i64 0), (.slice none 0 0), (.int .i64 0), (.int .i64 0), (.int .i64 0), (.int .i64 0), (.int .i64 0), (.int .i64 0), (.int .i64 0), (.int .i64 0), (.int .i64 0), (.int .i64 0), (.int .i64 0), (.int .i64 0), (.int .i64 0), (.int .i64 0), (.int .i64 0)] [] (fun t46_3 w =>
  (nw 112 (t50_6).cells (fun t51_8 w =>
  (stn 34 t4 t46_3 (fun w =>
  s50_p2 K t4 (.iface 110 t51_8) w) w) ∧
  (stn 34 t4 t46_3 (fun w =>
  s50_p2 K t4 (.iface 110 t51_8) w) w)) w) ∧
  (stn 34 t4 t46_3 (fun w =>
  nw 112 (t50_6).cells (fun t51_9 w =>
  s50_p2 K t4 (.iface 110 t51_9) w) w) w)) w) ∧
  (nw 112 (t50_6).cells (fun t51_10 w =>
  (bdq [(.int .i64 0), (.int .u8 0), (.int .i64 0), (.int .i64 0), (.int .i64 0), (.int .i64 0), (.int .i64 0), (.slice none 0 0), (.int .i64 0), (.int .i64 0), (.int .i64 0), (.slice none 0 0), (.int .i64 0), (.int .i64 0), (.int .i64 0), (.int .i64 0), (.int .i64 0), (.int .i64 0), (.slice none 0 0), (.int .i64 0), (.int .i64 0), (.int .i64 0), (.int .i64 0), (.int .i64 0), (.int .i64 0), (.int .i64 0), (.int .i64 0), (.int .i64 0), (.int .i64 0), (.int .i64 0), (.int .i64 0), (.int .i64 0), (.int .i64 0), (.int .i64 0)] [] (fun t46_4 w =>
  (stn 34 t4 t46_4 (fun w =>
  s50_p2 K t4 (.iface 110 t51_10) w) w) ∧
  (stn 34 t4 t46_4 (fun w =>
  s50_p2 K t4 (.iface 110 t51_10) w) w)) w) ∧
  (bdq [(.int .i64 0), (.int .u8 0), (.int .i64 0), (.int .i64 0), (.int .i64 0), (.int .i64 0), (.int .i64 0), (.slice none 0 0), (.int .i64 0), (.int .i64 0), (.int .i64 0), (.slice none 0 0), (.int .i64 0), (.int .i64 0), (.int .i64 0), (.int .i64 0), (.int .i64 0), (.int .i64 0), (.slice none 0 0), (.int .i64 0), (.int .i64 0), (.int .i64 0), (.int .i64 0), (.int .i64 0), (.int .i64 0), (.int .i64 0), (.int .i64 0), (.int .i64 0), (.int .i64 0), (.int .i64 0), (.int .i64 0), (.int .i64 0), (.int .i64 0), (.int .i64 0)] [] (fun t46_5 w =>
  stn 34 t4 t46_5 (fun w =>
  s50_p2 K t4 (.iface 110 t51_10) w) w) w)) w)) w)) w)) w0
def s50_p3 (K : Value → World → Prop) (t4 t6 t9 : Value) (w : World) : Prop := s50_p3_d K t4 t6 t9 (drw w) (drw w)
def s50_p3_den (K : Value → World → Prop) : (Nat → Value) → World → Prop := denL Tryz.prog [(cd (Tryz.f50.body.getD .skip) [1, 1, 1, 1, 1, 1, 0, 1, 0, 0])] (s50_p2_den K) (fun i => (fun _ _ => False)) (s50_R K)
theorem s50_p3_ok (K : Value → World → Prop) (s : Nat → Value) (w : World) (h : s50_p3 K (s 4) (s 6) (s 9) w) : Tr (s50_p3_den K s w) :=
  tr_draw (P := Tryz.prog) (ops := (ro (cd (Tryz.f50.body.getD .skip) [1, 1, 1, 1, 1, 1, 0, 1, 0, 0]))) (ms := [0, 0, 2, 0, 14, 30, 62, 1, 255]) (cs := [1, 3]) (N := (fun s w => s50_p2 K (s 4) (s 5) w)) (N' := (s50_p2_den K)) (s := s) (w := w) (p := s50_p3 K (s 4) (s 6) (s 9) w) (q := s50_p3_den K s w) (by kernel_rfl) (by kernel_rfl) (fun s w h => s50_p2_ok K s w @h) (by kernel_rfl) (by kernel_rfl) @h
def s50_p4 (K : Value → World → Prop) (t3 t4 t6 t9 t45 : Value) (w : World) : Prop :=
  ifb t45
  (s50_p3 K t4 t6 t9 w)
  (s50_p1 K t3 t4 t6 t9 w)
def s50_p4_den (K : Value → World → Prop) : (Nat → Value) → World → Prop := fun s w => ifb (ev s (.tmp 45)) ((s50_p3_den K) s w) ((s50_p1_den K) s w)
theorem s50_p4_ok (K : Value → World → Prop) (s : Nat → Value) (w : World) (h : s50_p4 K (s 3) (s 4) (s 6) (s 9) (s 45) w) : Tr (s50_p4_den K s w) :=
  tr_cond (v := ev s (.tmp 45)) (a := (fun s w => s50_p3 K (s 4) (s 6) (s 9) w) s w) (a' := (s50_p3_den K) s w) (b := (fun s w => s50_p1 K (s 3) (s 4) (s 6) (s 9) w) s w) (b' := (s50_p1_den K) s w) (p := s50_p4 K (s 3) (s 4) (s 6) (s 9) (s 45) w) (q := s50_p4_den K s w) ((fun s w h => s50_p3_ok K s w @h) s w) ((fun s w h => s50_p1_ok K s w @h) s w) (by kernel_rfl) (by kernel_rfl) @h
def s50_p5 (K : Value → World → Prop) (t0 t1 : Value) (w : World) : Prop :=
  nw 49 (t1).cells (fun t3 w =>
  nw 46 #[(.int .i64 0), (.int .u8 0), (.int .i64 0), (.int .i64 0), (.int .i64 0), (.int .i64 0), (.int .i64 0), (.slice none 0 0), (.int .i64 0), (.int .i64 0), (.int .i64 0), (.slice none 0 0), (.int .i64 0), (.int .i64 0), (.int .i64 0), (.int .i64 0), (.int .i64 0), (.int .i64 0), (.slice none 0 0), (.int .i64 0), (.int .i64 0), (.int .i64 0), (.int .i64 0), (.int .i64 0), (.int .i64 0), (.int .i64 0), (.int .i64 0), (.int .i64 0), (.int .i64 0), (.int .i64 0), (.int .i64 0), (.int .i64 0), (.int .i64 0), (.int .i64 0)] (fun t4 w =>
  fd 0 t3 (fun t10 w =>
  ld1 t10 (fun t11 w =>
  cl Tryz.prog 75 #[t11] (fun t12 w =>
  ldn 8 t3 (fun t14 w =>
  cl Tryz.prog 30 #[t14] (fun t15 w =>
  exq t15 0 (fun t16 w =>
  exq t15 1 (fun t17 w =>
  un .not t17 (fun t19 w =>
  ifb t19
  (bdq [(.int .i64 0), (.int .u8 0), (.int .i64 0), (.int .i64 0), (.int .i64 0), (.int .i64 0), (.int .i64 0), (.slice none 0 0), (.int .i64 0), (.int .i64 0), (.int .i64 0), (.slice none 0 0), (.int .i64 0), (.int .i64 0), (.int .i64 0), (.int .i64 0), (.int .i64 0), (.int .i64 0), (.slice none 0 0), (.int .i64 0), (.int .i64 0), (.int .i64 0), (.int .i64 0), (.int .i64 0), (.int .i64 0), (.int .i64 0), (.int .i64 0), (.int .i64 0), (.int .i64 0), (.int .i64 0), (.int .i64 0), (.int .i64 0), (.int .i64 0), (.int .i64 0)] [] (fun t20 w =>
  bdq [(.int .i64 0), (.string ⟨#[]⟩)] [(some (0, 1), (.int .i64 1)), (some (1, 1), t12)] (fun t22 w =>
  nw 112 (t22).cells (fun t23 w =>
  stn 34 t4 t20 (fun w =>
  ldn 34 t4 (fun r0 _ =>
  K (.tuple #[r0, (.iface 110 t23)]) w) w) w) w) w) w)
  (nck t0 (fun t27 w =>
  fd 0 t27 (fun t28 w =>
  ld1 t28 (fun t29 w =>
  cdy Tryz.prog t29 #[t16] (fun t31 w =>
  cl Tryz.prog 14 #[t31] (fun t32 w =>
  exq t32 0 (fun t33 w =>
  exq t32 1 (fun t34 w =>
  nw 46 #[(.int .i64 0), (.int .u8 0), (.int .i64 0), (.int .i64 0), (.int .i64 0), (.int .i64 0), (.int .i64 0), (.slice none 0 0), (.int .i64 0), (.int .i64 0), (.int .i64 0), (.slice none 0 0), (.int .i64 0), (.int .i64 0), (.int .i64 0), (.int .i64 0), (.int .i64 0), (.int .i64 0), (.slice none 0 0), (.int .i64 0), (.int .i64 0), (.int .i64 0), (.int .i64 0), (.int .i64 0), (.int .i64 0), (.int .i64 0), (.int .i64 0), (.int .i64 0), (.int .i64 0), (.int .i64 0), (.int .i64 0), (.int .i64 0), (.int .i64 0), (.int .i64 0)] (fun t9 w =>
  stn 34 t9 t33 (fun w =>
  un .not t34 (fun t36 w =>
  ifb t36
  (bdq [(.int .i64 0), (.int .u8 0), (.int .i64 0), (.int .i64 0), (.int .i64 0), (.int .i64 0), (.int .i64 0), (.slice none 0 0), (.int .i64 0), (.int .i64 0), (.int .i64 0), (.slice none 0 0), (.int .i64 0), (.int .i64 0), (.int .i64 0), (.int .i64 0), (.int .i64 0), (.int .i64 0), (.slice none 0 0), (.int .i64 0), (.int .i64 0), (.int .i64 0), (.int .i64 0), (.int .i64 0), (.int .i64 0), (.int .i64 0), (.int .i64 0), (.int .i64 0), (.int .i64 0), (.int .i64 0), (.int .i64 0), (.int .i64 0), (.int .i64 0), (.int .i64 0)] [] (fun t37 w =>
  boS .add t12 (.string ⟨#[58, 32, 114, 101, 97, 100, 105, 110, 103, 32, 116, 104, 101, 32, 114, 101, 112, 108, 121]⟩) (fun t39 w =>
  bdq [(.int .i64 0), (.string ⟨#[]⟩)] [(some (0, 1), (.int .i64 1)), (some (1, 1), t39)] (fun t40 w =>
  nw 112 (t40).cells (fun t41 w =>
  stn 34 t4 t37 (fun w =>
  ldn 34 t4 (fun r0 _ =>
  K (.tuple #[r0, (.iface 110 t41)]) w) w) w) w) w) w) w)
  (fd 0 t9 (fun t43 w =>
  ld1 t43 (fun t44 w =>
  boI .neq t44 (.int .i64 0) (fun t45 w =>
  s50_p4 K t3 t4 t12 t9 t45 w) w) w) w)) w) w) w) w) w) w) w) w) w) w)) w) w) w) w) w) w) w) w) w) w
def s50_p5_den (K : Value → World → Prop) : (Nat → Value) → World → Prop := denL Tryz.prog [(cd (Tryz.f50.body.getD .skip) [0]), (cd (Tryz.f50.body.getD .skip) [1, 0]), (cd (Tryz.f50.body.getD .skip) [1, 1, 0]), (cd (Tryz.f50.body.getD .skip) [1, 1, 1, 0, 0]), (cd (Tryz.f50.body.getD .skip) [1, 1, 1, 0, 1]), (cd (Tryz.f50.body.getD .skip) [1, 1, 1, 1, 0]), (cd (Tryz.f50.body.getD .skip) [1, 1, 1, 1, 1, 0, 0]), (cd (Tryz.f50.body.getD .skip) [1, 1, 1, 1, 1, 0, 1]), (cd (Tryz.f50.body.getD .skip) [1, 1, 1, 1, 1, 1, 0, 0])] (s50_p4_den K) (fun i => (fun _ _ => False)) (s50_R K)
theorem s50_p5_ok (K : Value → World → Prop) (s : Nat → Value) (w : World) (h : s50_p5 K (s 0) (s 1) w) : Tr (s50_p5_den K s w) :=
  tr_simple (P := Tryz.prog) (codes := [(cd (Tryz.f50.body.getD .skip) [0]), (cd (Tryz.f50.body.getD .skip) [1, 0]), (cd (Tryz.f50.body.getD .skip) [1, 1, 0]), (cd (Tryz.f50.body.getD .skip) [1, 1, 1, 0, 0]), (cd (Tryz.f50.body.getD .skip) [1, 1, 1, 0, 1]), (cd (Tryz.f50.body.getD .skip) [1, 1, 1, 1, 0]), (cd (Tryz.f50.body.getD .skip) [1, 1, 1, 1, 1, 0, 0]), (cd (Tryz.f50.body.getD .skip) [1, 1, 1, 1, 1, 0, 1]), (cd (Tryz.f50.body.getD .skip) [1, 1, 1, 1, 1, 1, 0, 0])]) (N := (fun s w => s50_p4 K (s 3) (s 4) (s 6) (s 9) (s 45) w)) (N' := (s50_p4_den K)) (X := (fun i => (fun _ _ => False))) (X' := (fun i => (fun _ _ => False))) (R := s50_R K) (s := s) (w := w) (p := s50_p5 K (s 0) (s 1) w) (q := s50_p5_den K s w) (fun s w h => s50_p4_ok K s w @h) (fun i => tr_id) (by kernel_rfl) (by kernel_rfl) @h
/-- the call, from the text -/
theorem c50 (t0 t1 : Value) {K : Value → World → Prop} {w : World} (h : s50_p5 K t0 t1 w) : cl Tryz.prog 50 #[t0, t1] K w :=
  calls_of_tr (c := (Tryz.f50.body.getD .skip)) (fn := Tryz.f50) (q := s50_p5_den K (st0 #[t0, t1]) w) Tryz.func50 (by kernel_rfl) (by kernel_rfl) (Nat.le_of_ble_eq_true (by kernel_rfl)) (by kernel_rfl) (by kernel_rfl) (s50_p5_ok K (st0 #[t0, t1]) w @h)

/-! ### function 17 : (*e2e.engine.Client).All -/
def s17_R (K : Value → World → Prop) (s : Nat → Value) (w : World) : Prop := retv Tryz.prog s Tryz.f17.results.toList (fun vs => K (pack vs) w) w
def s17_p1 (K : Value → World → Prop) (t4 : Value) (w : World) : Prop :=
  K (.tuple #[t4, .nilIface]) w
def s17_p1_den (K : Value → World → Prop) : (Nat → Value) → World → Prop := denL Tryz.prog [(cd (Tryz.f17.body.getD .skip) [1, 1, 1, 0]), (cd (Tryz.f17.body.getD .skip) [1, 1, 1, 1])] (fun _ _ => False) (fun i => (fun _ _ => False)) (s17_R K)
theorem s17_p1_ok (K : Value → World → Prop) (s : Nat → Value) (w : World) (h : s17_p1 K (s 4) w) : Tr (s17_p1_den K s w) :=
  tr_simple (P := Tryz.prog) (codes := [(cd (Tryz.f17.body.getD .skip) [1, 1, 1, 0]), (cd (Tryz.f17.body.getD .skip) [1, 1, 1, 1])]) (N := (fun _ _ => False)) (N' := (fun _ _ => False)) (X := (fun i => (fun _ _ => False))) (X' := (fun i => (fun _ _ => False))) (R := s17_R K) (s := s) (w := w) (p := s17_p1 K (s 4) w) (q := s17_p1_den K s w) tr_id (fun i => tr_id) (by kernel_rfl) (by kernel_rfl) @h
def s17_p2 (K : Value → World → Prop) (B1 : List Value → World → Prop) (t0 t4 t5 : Value) (w : World) : Prop :=
  boI .neq t5 (.int .i64 0) (fun t9 w =>
  ifb t9
  (bdq [(.int .u8 0), (.int .i64 0), (.int .i64 0), (.int .i64 0), (.int .i64 0), (.int .i64 0), (.int .i64 0), (.slice none 0 0)] [(some (0, 1), (.int .u8 17)), (some (1, 1), t5)] (fun t13 w =>
  cl Tryz.prog 50 #[t0, t13] (fun t14 w =>
  exq t14 0 (fun t15 w =>
  exq t14 1 (fun t16 w =>
  nw 46 #[(.int .i64 0), (.int .u8 0), (.int .i64 0), (.int .i64 0), (.int .i64 0), (.int .i64 0), (.int .i64 0), (.slice none 0 0), (.int .i64 0), (.int .i64 0), (.int .i64 0), (.slice none 0 0), (.int .i64 0), (.int .i64 0), (.int .i64 0), (.int .i64 0), (.int .i64 0), (.int .i64 0), (.slice none 0 0), (.int .i64 0), (.int .i64 0), (.int .i64 0), (.int .i64 0), (.int .i64 0), (.int .i64 0), (.int .i64 0), (.int .i64 0), (.int .i64 0), (.int .i64 0), (.int .i64 0), (.int .i64 0), (.int .i64 0), (.int .i64 0), (.int .i64 0)] (fun t6 w =>
  stn 34 t6 t15 (fun w =>
  boF Tryz.prog true .neq t16 .nilIface (fun t18 w =>
  ifb t18
  (K (.tuple #[(.slice none 0 0), t16]) w)
  (fd 12 t6 (fun t20 w =>
  ld1 t20 (fun t21 w =>
  boI .neq t21 (.int .i64 0) (fun t22 w =>
  gd t22 true (fd 12 t6) (fun t24 w =>
  gd t22 true (ld1 t24) (fun t25 w =>
  gd t22 true (fun K w => K t5 w) (fun t26 w =>
  gd t22 true (boI .leq t25 t26) (fun t27 w =>
  pk t22 t27 (.bool false) (fun t28 w =>
  ifb t28
  (bdq [(.int .i64 0), (.string ⟨#[]⟩)] [(some (0, 1), (.int .i64 1)), (some (1, 1), (.string ⟨#[108, 105, 115, 116, 58, 32, 116, 104, 101, 32, 112, 97, 103, 101, 115, 32, 100, 111, 32, 110, 111, 116, 32, 97, 100, 118, 97, 110, 99, 101]⟩))] (fun t29 w =>
  nw 112 (t29).cells (fun t30 w =>
  K (.tuple #[(.slice none 0 0), (.iface 110 t30)]) w) w) w)
  (fd 11 t6 (fun t33 w =>
  ld1 t33 (fun t34 w =>
  apq 66 [(.int .i64 0), (.int .i64 0), (.int .i64 0), (.int .i64 0), (.int .i64 0), (.int .i64 0), (.slice none 0 0)] 72 t4 t34 (fun t35 w =>
  fd 12 t6 (fun t36 w =>
  ld1 t36 (fun t37 w =>
  B1 [t0, t35, t37] w) w) w) w) w) w)) w) w) w) w) w) w) w) w)) w) w) w) w) w) w) w)
  (s17_p1 K t4 w)) w
def s17_p2_den (K : Value → World → Prop) (M1 : (Nat → Value) → World → Prop) : (Nat → Value) → World → Prop := denL Tryz.prog [(cd (Tryz.f17.body.getD .skip) [1, 1, 0, 1, 0, 0, 0, 0]), (cd (Tryz.f17.body.getD .skip) [1, 1, 0, 1, 0, 0, 0, 1]), (cd (Tryz.f17.body.getD .skip) [1, 1, 0, 1, 0, 0, 1])] M1 (fun i => (bif Nat.beq i 0 then (s17_p1_den K) else (fun _ _ => False))) (s17_R K)
theorem s17_p2_ok (K : Value → World → Prop) (B1 : List Value → World → Prop) (s : Nat → Value) (w : World) (h : s17_p2 K B1 (s 0) (s 4) (s 5) w) : Tr (s17_p2_den K (fun s w => B1 [s 0, s 4, s 5] w) s w) :=
  tr_simple (P := Tryz.prog) (codes := [(cd (Tryz.f17.body.getD .skip) [1, 1, 0, 1, 0, 0, 0, 0]), (cd (Tryz.f17.body.getD .skip) [1, 1, 0, 1, 0, 0, 0, 1]), (cd (Tryz.f17.body.getD .skip) [1, 1, 0, 1, 0, 0, 1])]) (N := (fun s w => B1 [s 0, s 4, s 5] w)) (N' := (fun s w => B1 [s 0, s 4, s 5] w)) (X := (fun i => (bif Nat.beq i 0 then (fun s w => s17_p1 K (s 4) w) else (fun _ _ => False)))) (X' := (fun i => (bif Nat.beq i 0 then (s17_p1_den K) else (fun _ _ => False)))) (R := s17_R K) (s := s) (w := w) (p := s17_p2 K B1 (s 0) (s 4) (s 5) w) (q := s17_p2_den K (fun s w => B1 [s 0, s 4, s 5] w) s w) tr_id (fun i => (tr_bif (fun s w h => s17_p1_ok K s w @h) tr_id)) (by kernel_rfl) (by kernel_rfl) @h
def s17_p3_F (K : Value → World → Prop) (B1 : List Value → World → Prop) (l : List Value) (w : World) : Prop :=
  match l with
  | [t0, t4, t5] => s17_p2 K B1 t0 t4 t5 w
  | _ => False
theorem s17_p3_Fe {K : Value → World → Prop} {B1 : List Value → World → Prop} {t0 t4 t5 : Value} {w : World} : s17_p3_F K B1 [t0, t4, t5] w = s17_p2 K B1 t0 t4 t5 w := by kernel_rfl
def s17_p3 (K : Value → World → Prop) (t0 t4 t5 : Value) (w : World) : Prop :=
  LoopL (s17_p3_F K) [t0, t4, t5] w
def s17_p3_den (K : Value → World → Prop) : (Nat → Value) → World → Prop := fun s w => LoopP (fun M1 s w => s17_p2_den K M1 s w) s w
theorem s17_p3_ok (K : Value → World → Prop) (s : Nat → Value) (w : World) (h : s17_p3 K (s 0) (s 4) (s 5) w) : Tr (s17_p3_den K s w) :=
  tr_loop (G := fun N' s w => s17_p2_den K N' s w) (F := s17_p3_F K) (sel := fun s => [s 0, s 4, s 5]) (s := s) (w := w) (p := s17_p3 K (s 0) (s 4) (s 5) w) (q := s17_p3_den K s w) (fun B s w h => s17_p2_ok K B s w @h) (by kernel_rfl) (by kernel_rfl) @h
def s17_p4 (K : Value → World → Prop) (t0 : Value) (w : World) : Prop :=
  s17_p3 K t0 (.slice none 0 0) (.int .i64 1) w
def s17_p4_den (K : Value → World → Prop) : (Nat → Value) → World → Prop := denL Tryz.prog [(cd (Tryz.f17.body.getD .skip) [0]), (cd (Tryz.f17.body.getD .skip) [1, 0]), (cd (Tryz.f17.body.getD .skip) [1, 1, 0, 0])] (s17_p3_den K) (fun i => (fun _ _ => False)) (s17_R K)
theorem s17_p4_ok (K : Value → World → Prop) (s : Nat → Value) (w : World) (h : s17_p4 K (s 0) w) : Tr (s17_p4_den K s w) :=
  tr_simple (P := Tryz.prog) (codes := [(cd (Tryz.f17.body.getD .skip) [0]), (cd (Tryz.f17.body.getD .skip) [1, 0]), (cd (Tryz.f17.body.getD .skip) [1, 1, 0, 0])]) (N := (fun s w => s17_p3 K (s 0) (s 4) (s 5) w)) (N' := (s17_p3_den K)) (X := (fun i => (fun _ _ => False))) (X' := (fun i => (fun _ _ => False))) (R := s17_R K) (s := s) (w := w) (p := s17_p4 K (s 0) w) (q := s17_p4_den K s w) (fun s w h => s17_p3_ok K s w @h) (fun i => tr_id) (by kernel_rfl) (by kernel_rfl) @h
/-- the call, from the text -/
theorem c17 (t0 : Value) {K : Value → World → Prop} {w : World} (h : s17_p4 K t0 w) : cl Tryz.prog 17 #[t0] K w :=
  calls_of_tr (c := (Tryz.f17.body.getD .skip)) (fn := Tryz.f17) (q := s17_p4_den K (st0 #[t0]) w) Tryz.func17 (by kernel_rfl) (by kernel_rfl) (Nat.le_of_ble_eq_true (by kernel_rfl)) (by kernel_rfl) (by kernel_rfl) (s17_p4_ok K (st0 #[t0]) w @h)

end Go.Proofs.Qxb6500896aGreatDoor
