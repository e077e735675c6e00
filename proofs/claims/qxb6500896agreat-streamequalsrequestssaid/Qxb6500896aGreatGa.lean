import Derived.Test.Qxb6500896aGreatProg
import Derived.Test.Qxb6500896aGreatShTr
namespace Go.Proofs.Qxb6500896aGreat
open Go.Sh Go.RowKit
set_option linter.unusedVariables false
set_option maxRecDepth 100000

def lit_1 : ByteArray := ⟨#[101, 110, 103, 105, 110, 101, 108, 97, 119, 58, 32, 116, 104, 101, 32, 99, 111, 110, 102, 105, 103, 117, 114, 97, 116, 105, 111, 110, 32, 111, 102, 32, 116, 104, 101, 32, 97, 112, 105, 32, 119, 97, 115, 32, 114, 101, 102, 117, 115, 101, 100]⟩
def lit_2 : ByteArray := ⟨#[101, 110, 103, 105, 110, 101, 108, 97, 119, 58, 32, 97, 32, 113, 117, 101, 115, 116, 105, 111, 110, 32, 111, 102, 32, 116, 104, 101, 32, 108, 97, 119, 115, 32, 104, 97, 115, 32, 110, 111, 32, 102, 111, 114, 109, 32, 111, 110, 32, 116, 104, 101, 32, 119, 105, 114, 101]⟩
/-! ### function 21 : e2e.api.Park -/
def s21_R (K : Value → World → Prop) (s : Nat → Value) (w : World) : Prop := retv Tryz.prog s Tryz.f21.results.toList (fun vs => K (pack vs) w) w
def s21_p1 (K : Value → World → Prop) (w : World) : Prop :=
  nw 34 #[(.slice none 0 0), (.slice none 0 0), (.int .i64 0), (.int .i64 0), (.int .i64 0), (.int .i64 0), (.int .i64 0), (.int .i64 0), (.int .i64 0), (.int .i64 0), (.int .i64 0), (.int .i64 0), (.int .i64 0), (.int .i64 0)] (fun t0 w =>
  bdq [(.int .i64 0), (.int .i64 0), (.int .i64 0)] [(some (0, 1), (.int .i64 8)), (some (1, 1), (.int .i64 4)), (some (2, 1), (.int .i64 6))] (fun t1 w =>
  bdq [(.int .i64 0), (.int .i64 0), (.int .i64 0), (.int .i64 0), (.int .i64 0)] [(some (0, 1), (.int .i64 8)), (some (1, 1), (.int .i64 1)), (some (2, 3), t1)] (fun t2 w =>
  bdq [(.int .i64 0), (.int .i64 0), (.int .i64 0)] [(some (0, 1), (.int .i64 10)), (some (1, 1), (.int .i64 5)), (some (2, 1), (.int .i64 6))] (fun t3 w =>
  bdq [(.int .i64 0), (.int .i64 0), (.int .i64 0), (.int .i64 0), (.int .i64 0)] [(some (0, 1), (.int .i64 10)), (some (1, 1), (.int .i64 3)), (some (2, 3), t3)] (fun t4 w =>
  bdq [(.int .i64 0), (.int .i64 0), (.int .i64 0)] [(some (0, 1), (.int .i64 6)), (some (1, 1), (.int .i64 6)), (some (2, 1), (.int .i64 3))] (fun t5 w =>
  bdq [(.int .i64 0), (.int .i64 0), (.int .i64 0), (.int .i64 0), (.int .i64 0)] [(some (0, 1), (.int .i64 6)), (some (1, 1), (.int .i64 2)), (some (2, 3), t5)] (fun t6 w =>
  bsq 113 [(.int .i64 0), (.int .i64 0), (.int .i64 0), (.int .i64 0), (.int .i64 0)] 3 [(some (0, 5), t2), (some (5, 5), t4), (some (10, 5), t6)] (fun t7 w =>
  bsq 3 [(.int .i64 0)] 3 [(some (0, 1), (.int .i64 0)), (some (1, 1), (.int .i64 1)), (some (2, 1), (.int .i64 2))] (fun t8 w =>
  bsq 3 [(.int .i64 0)] 3 [(some (0, 1), (.int .i64 1)), (some (1, 1), (.int .i64 0)), (some (2, 1), (.int .i64 1))] (fun t9 w =>
  bsq 3 [(.int .i64 0)] 3 [(some (0, 1), (.int .i64 3)), (some (1, 1), (.int .i64 1)), (some (2, 1), (.int .i64 0))] (fun t10 w =>
  bsq 79 [(.slice none 0 0)] 3 [(some (0, 1), t8), (some (1, 1), t9), (some (2, 1), t10)] (fun t11 w =>
  bdq [(.slice none 0 0), (.slice none 0 0), (.int .i64 0), (.int .i64 0), (.int .i64 0), (.int .i64 0), (.int .i64 0), (.int .i64 0), (.int .i64 0), (.int .i64 0), (.int .i64 0), (.int .i64 0), (.int .i64 0), (.int .i64 0)] [(some (0, 1), t7), (some (1, 1), t11), (some (2, 1), (.int .i64 8)), (some (3, 1), (.int .i64 36)), (some (4, 1), (.int .i64 5)), (some (5, 1), (.int .i64 3)), (some (6, 1), (.int .i64 3)), (some (7, 1), (.int .i64 2)), (some (8, 1), (.int .i64 2)), (some (9, 1), (.int .i64 4)), (some (10, 1), (.int .i64 26)), (some (11, 1), (.int .i64 4)), (some (12, 1), (.int .i64 5)), (some (13, 1), (.int .i64 6))] (fun t12 w =>
  stn 14 t0 t12 (fun w =>
  ldn 14 t0 (fun r0 _ =>
  K r0 w) w) w) w) w) w) w) w) w) w) w) w) w) w) w) w
def s21_p1_den (K : Value → World → Prop) : (Nat → Value) → World → Prop := denL Tryz.prog [(cd (Tryz.f21.body.getD .skip) [0]), (cd (Tryz.f21.body.getD .skip) [1, 0]), (cd (Tryz.f21.body.getD .skip) [1, 1])] (fun _ _ => False) (fun i => (fun _ _ => False)) (s21_R K)
theorem s21_p1_ok (K : Value → World → Prop) (s : Nat → Value) (w : World) (h : s21_p1 K w) : Tr (s21_p1_den K s w) :=
  tr_simple (P := Tryz.prog) (codes := [(cd (Tryz.f21.body.getD .skip) [0]), (cd (Tryz.f21.body.getD .skip) [1, 0]), (cd (Tryz.f21.body.getD .skip) [1, 1])]) (N := (fun _ _ => False)) (N' := (fun _ _ => False)) (X := (fun i => (fun _ _ => False))) (X' := (fun i => (fun _ _ => False))) (R := s21_R K) (s := s) (w := w) (p := s21_p1 K w) (q := s21_p1_den K s w) tr_id (fun i => tr_id) (by kernel_rfl) (by kernel_rfl) @h
/-- the call, from the text -/
theorem c21 {K : Value → World → Prop} {w : World} (h : s21_p1 K  w) : cl Tryz.prog 21 #[] K w :=
  calls_of_tr (c := (Tryz.f21.body.getD .skip)) (fn := Tryz.f21) (q := s21_p1_den K (st0 #[]) w) Tryz.func21 (by kernel_rfl) (by kernel_rfl) (Nat.le_of_ble_eq_true (by kernel_rfl)) (by kernel_rfl) (by kernel_rfl) (s21_p1_ok K (st0 #[]) w @h)

/-! ### function 19 : e2e.api.ParkJournal -/
def s19_R (K : Value → World → Prop) (s : Nat → Value) (w : World) : Prop := retv Tryz.prog s Tryz.f19.results.toList (fun vs => K (pack vs) w) w
def s19_p1 (K : Value → World → Prop) (w : World) : Prop :=
  nw 27 #[(.int .i64 0), (.int .i64 0), (.int .i64 0)] (fun t0 w =>
  bdq [(.int .i64 0), (.int .i64 0), (.int .i64 0)] [(some (0, 1), (.int .i64 48)), (some (1, 1), (.int .i64 72)), (some (2, 1), (.int .i64 1200))] (fun t1 w =>
  stn 3 t0 t1 (fun w =>
  ldn 3 t0 (fun r0 _ =>
  K r0 w) w) w) w) w
def s19_p1_den (K : Value → World → Prop) : (Nat → Value) → World → Prop := denL Tryz.prog [(cd (Tryz.f19.body.getD .skip) [0]), (cd (Tryz.f19.body.getD .skip) [1, 0]), (cd (Tryz.f19.body.getD .skip) [1, 1])] (fun _ _ => False) (fun i => (fun _ _ => False)) (s19_R K)
theorem s19_p1_ok (K : Value → World → Prop) (s : Nat → Value) (w : World) (h : s19_p1 K w) : Tr (s19_p1_den K s w) :=
  tr_simple (P := Tryz.prog) (codes := [(cd (Tryz.f19.body.getD .skip) [0]), (cd (Tryz.f19.body.getD .skip) [1, 0]), (cd (Tryz.f19.body.getD .skip) [1, 1])]) (N := (fun _ _ => False)) (N' := (fun _ _ => False)) (X := (fun i => (fun _ _ => False))) (X' := (fun i => (fun _ _ => False))) (R := s19_R K) (s := s) (w := w) (p := s19_p1 K w) (q := s19_p1_den K s w) tr_id (fun i => tr_id) (by kernel_rfl) (by kernel_rfl) @h
/-- the call, from the text -/
theorem c19 {K : Value → World → Prop} {w : World} (h : s19_p1 K  w) : cl Tryz.prog 19 #[] K w :=
  calls_of_tr (c := (Tryz.f19.body.getD .skip)) (fn := Tryz.f19) (q := s19_p1_den K (st0 #[]) w) Tryz.func19 (by kernel_rfl) (by kernel_rfl) (Nat.le_of_ble_eq_true (by kernel_rfl)) (by kernel_rfl) (by kernel_rfl) (s19_p1_ok K (st0 #[]) w @h)

/-! ### function 18 : e2e.enginelaw.newRig -/
def s18_R (K : Value → World → Prop) (s : Nat → Value) (w : World) : Prop := retv Tryz.prog s Tryz.f18.results.toList (fun vs => K (pack vs) w) w
def s18_p1 (K : Value → World → Prop) (t3 t4 : Value) (w : World) : Prop :=
  nck t3 (fun t24 w =>
  fd 1 t24 (fun t25 w =>
  st1 t25 t4 (fun w =>
  K t3 w) w) w) w
def s18_p1_den (K : Value → World → Prop) : (Nat → Value) → World → Prop := denL Tryz.prog [(cd (Tryz.f18.body.getD .skip) [1, 1, 1, 1, 0]), (cd (Tryz.f18.body.getD .skip) [1, 1, 1, 1, 1, 0]), (cd (Tryz.f18.body.getD .skip) [1, 1, 1, 1, 1, 1])] (fun _ _ => False) (fun i => (fun _ _ => False)) (s18_R K)
theorem s18_p1_ok (K : Value → World → Prop) (s : Nat → Value) (w : World) (h : s18_p1 K (s 3) (s 4) w) : Tr (s18_p1_den K s w) :=
  tr_simple (P := Tryz.prog) (codes := [(cd (Tryz.f18.body.getD .skip) [1, 1, 1, 1, 0]), (cd (Tryz.f18.body.getD .skip) [1, 1, 1, 1, 1, 0]), (cd (Tryz.f18.body.getD .skip) [1, 1, 1, 1, 1, 1])]) (N := (fun _ _ => False)) (N' := (fun _ _ => False)) (X := (fun i => (fun _ _ => False))) (X' := (fun i => (fun _ _ => False))) (R := s18_R K) (s := s) (w := w) (p := s18_p1 K (s 3) (s 4) w) (q := s18_p1_den K s w) tr_id (fun i => tr_id) (by kernel_rfl) (by kernel_rfl) @h
def s18_p2 (K : Value → World → Prop) (t3 t4 t5 : Value) (w : World) : Prop :=
  boF Tryz.prog true .neq t5 .nilIface (fun t20 w =>
  ifb t20
  (False)
  (s18_p1 K t3 t4 w)) w
def s18_p2_den (K : Value → World → Prop) : (Nat → Value) → World → Prop := denL Tryz.prog [(cd (Tryz.f18.body.getD .skip) [1, 1, 1, 0, 0]), (cd (Tryz.f18.body.getD .skip) [1, 1, 1, 0, 1])] (s18_p1_den K) (fun i => (fun _ _ => False)) (s18_R K)
theorem s18_p2_ok (K : Value → World → Prop) (s : Nat → Value) (w : World) (h : s18_p2 K (s 3) (s 4) (s 5) w) : Tr (s18_p2_den K s w) :=
  tr_simple (P := Tryz.prog) (codes := [(cd (Tryz.f18.body.getD .skip) [1, 1, 1, 0, 0]), (cd (Tryz.f18.body.getD .skip) [1, 1, 1, 0, 1])]) (N := (fun s w => s18_p1 K (s 3) (s 4) w)) (N' := (s18_p1_den K)) (X := (fun i => (fun _ _ => False))) (X' := (fun i => (fun _ _ => False))) (R := s18_R K) (s := s) (w := w) (p := s18_p2 K (s 3) (s 4) (s 5) w) (q := s18_p2_den K s w) (fun s w h => s18_p1_ok K s w @h) (fun i => tr_id) (by kernel_rfl) (by kernel_rfl) @h
def s18_p3_d (K : Value → World → Prop) (t3 : Value) (w0 w : World) : Prop :=
  nck t3 (fun t13 _ =>
  fd 0 t13 (fun t14 _ =>
  ld1 t14 (fun t15 _ =>
  cl Tryz.prog 21 #[] (fun t11 w =>
  Below w0.heap.size w0 w ∧
  cl Tryz.prog 38 #[t11, t15] (fun t16 w =>
  (exq t16 0 (fun t17 w =>
  (exq t16 1 (fun t18 w =>
  s18_p2 K t3 t17 t18 w) w) ∧
  (exq t16 1 (fun t18_2 w =>
  s18_p2 K t3 t17 t18_2 w) w)) w) ∧
  (exq t16 1 (fun t18_3 w =>
  exq t16 0 (fun t17_2 w =>
  s18_p2 K t3 t17_2 t18_3 w) w) w)) w) w) w0) w0) w0
def s18_p3 (K : Value → World → Prop) (t3 : Value) (w : World) : Prop := s18_p3_d K t3 (drw w) (drw w)
def s18_p3_den (K : Value → World → Prop) : (Nat → Value) → World → Prop := denL Tryz.prog [(cd (Tryz.f18.body.getD .skip) [1, 1, 0])] (s18_p2_den K) (fun i => (fun _ _ => False)) (s18_R K)
theorem s18_p3_ok (K : Value → World → Prop) (s : Nat → Value) (w : World) (h : s18_p3 K (s 3) w) : Tr (s18_p3_den K s w) :=
  tr_draw (P := Tryz.prog) (ops := (ro (cd (Tryz.f18.body.getD .skip) [1, 1, 0]))) (ms := [0, 0, 2, 6, 14, 31, 63, 127, 127, 255, 1023]) (cs := [1, 2, 3, 4]) (N := (fun s w => s18_p2 K (s 3) (s 4) (s 5) w)) (N' := (s18_p2_den K)) (s := s) (w := w) (p := s18_p3 K (s 3) w) (q := s18_p3_den K s w) (by kernel_rfl) (by kernel_rfl) (fun s w h => s18_p2_ok K s w @h) (by kernel_rfl) (by kernel_rfl) @h
def s18_p4 (K : Value → World → Prop) (t0 : Value) (w : World) : Prop :=
  nw 27 (t0).cells (fun t1 w =>
  ldn 3 t1 (fun t6 w =>
  cl Tryz.prog 82 #[t6] (fun t7 w =>
  bdq [(.pointer none), (.pointer none)] [(some (0, 1), t7)] (fun t8 w =>
  nw 47 (t8).cells (fun t9 w =>
  s18_p3 K t9 w) w) w) w) w) w
def s18_p4_den (K : Value → World → Prop) : (Nat → Value) → World → Prop := denL Tryz.prog [(cd (Tryz.f18.body.getD .skip) [0]), (cd (Tryz.f18.body.getD .skip) [1, 0])] (s18_p3_den K) (fun i => (fun _ _ => False)) (s18_R K)
theorem s18_p4_ok (K : Value → World → Prop) (s : Nat → Value) (w : World) (h : s18_p4 K (s 0) w) : Tr (s18_p4_den K s w) :=
  tr_simple (P := Tryz.prog) (codes := [(cd (Tryz.f18.body.getD .skip) [0]), (cd (Tryz.f18.body.getD .skip) [1, 0])]) (N := (fun s w => s18_p3 K (s 3) w)) (N' := (s18_p3_den K)) (X := (fun i => (fun _ _ => False))) (X' := (fun i => (fun _ _ => False))) (R := s18_R K) (s := s) (w := w) (p := s18_p4 K (s 0) w) (q := s18_p4_den K s w) (fun s w h => s18_p3_ok K s w @h) (fun i => tr_id) (by kernel_rfl) (by kernel_rfl) @h
/-- the call, from the text -/
theorem c18 (t0 : Value) {K : Value → World → Prop} {w : World} (h : s18_p4 K t0 w) : cl Tryz.prog 18 #[t0] K w :=
  calls_of_tr (c := (Tryz.f18.body.getD .skip)) (fn := Tryz.f18) (q := s18_p4_den K (st0 #[t0]) w) Tryz.func18 (by kernel_rfl) (by kernel_rfl) (Nat.le_of_ble_eq_true (by kernel_rfl)) (by kernel_rfl) (by kernel_rfl) (s18_p4_ok K (st0 #[t0]) w @h)

/-! ### function 17 : e2e.enginelaw.zzSmall1 -/
def s17_R (K : Value → World → Prop) (s : Nat → Value) (w : World) : Prop := retv Tryz.prog s Tryz.f17.results.toList (fun vs => K (pack vs) w) w
def s17_p1 (K : Value → World → Prop) (w : World) : Prop :=
  K (.bool true) w
def s17_p1_den (K : Value → World → Prop) : (Nat → Value) → World → Prop := denL Tryz.prog [(cd (Tryz.f17.body.getD .skip) [1, 1, 1, 1, 0]), (cd (Tryz.f17.body.getD .skip) [1, 1, 1, 1, 1])] (fun _ _ => False) (fun i => (fun _ _ => False)) (s17_R K)
theorem s17_p1_ok (K : Value → World → Prop) (s : Nat → Value) (w : World) (h : s17_p1 K w) : Tr (s17_p1_den K s w) :=
  tr_simple (P := Tryz.prog) (codes := [(cd (Tryz.f17.body.getD .skip) [1, 1, 1, 1, 0]), (cd (Tryz.f17.body.getD .skip) [1, 1, 1, 1, 1])]) (N := (fun _ _ => False)) (N' := (fun _ _ => False)) (X := (fun i => (fun _ _ => False))) (X' := (fun i => (fun _ _ => False))) (R := s17_R K) (s := s) (w := w) (p := s17_p1 K w) (q := s17_p1_den K s w) tr_id (fun i => tr_id) (by kernel_rfl) (by kernel_rfl) @h
def s17_p2 (K : Value → World → Prop) (B1 : List Value → World → Prop) (t0 t3 t4 : Value) (w : World) : Prop :=
  lnS t0 (fun t11 w =>
  boI .lss t4 t11 (fun t12 w =>
  ifb t12
  (ixs 4 t0 t4 (fun t18 w =>
  fd 1 t18 (fun t19 w =>
  ld1 t19 (fun t20 w =>
  lnS t20 (fun t21 w =>
  boI .add t3 t21 (fun t22 w =>
  boI .gtr t22 (.int .i64 65536) (fun t24 w =>
  ifb t24
  (K (.bool false) w)
  (boI .add t4 (.int .i64 1) (fun t14 w =>
  B1 [t0, t22, t14] w) w)) w) w) w) w) w) w)
  (s17_p1 K w)) w) w
def s17_p2_den (K : Value → World → Prop) (M1 : (Nat → Value) → World → Prop) : (Nat → Value) → World → Prop := denL Tryz.prog [(cd (Tryz.f17.body.getD .skip) [1, 1, 1, 0, 1, 0, 0, 0, 0]), (cd (Tryz.f17.body.getD .skip) [1, 1, 1, 0, 1, 0, 0, 0, 1]), (cd (Tryz.f17.body.getD .skip) [1, 1, 1, 0, 1, 0, 0, 1, 0]), (cd (Tryz.f17.body.getD .skip) [1, 1, 1, 0, 1, 0, 0, 1, 1])] M1 (fun i => (bif Nat.beq i 0 then (s17_p1_den K) else (fun _ _ => False))) (s17_R K)
theorem s17_p2_ok (K : Value → World → Prop) (B1 : List Value → World → Prop) (s : Nat → Value) (w : World) (h : s17_p2 K B1 (s 0) (s 3) (s 4) w) : Tr (s17_p2_den K (fun s w => B1 [s 0, s 3, s 4] w) s w) :=
  tr_simple (P := Tryz.prog) (codes := [(cd (Tryz.f17.body.getD .skip) [1, 1, 1, 0, 1, 0, 0, 0, 0]), (cd (Tryz.f17.body.getD .skip) [1, 1, 1, 0, 1, 0, 0, 0, 1]), (cd (Tryz.f17.body.getD .skip) [1, 1, 1, 0, 1, 0, 0, 1, 0]), (cd (Tryz.f17.body.getD .skip) [1, 1, 1, 0, 1, 0, 0, 1, 1])]) (N := (fun s w => B1 [s 0, s 3, s 4] w)) (N' := (fun s w => B1 [s 0, s 3, s 4] w)) (X := (fun i => (bif Nat.beq i 0 then (fun s w => s17_p1 K w) else (fun _ _ => False)))) (X' := (fun i => (bif Nat.beq i 0 then (s17_p1_den K) else (fun _ _ => False)))) (R := s17_R K) (s := s) (w := w) (p := s17_p2 K B1 (s 0) (s 3) (s 4) w) (q := s17_p2_den K (fun s w => B1 [s 0, s 3, s 4] w) s w) tr_id (fun i => (tr_bif (fun s w h => s17_p1_ok K s w @h) tr_id)) (by kernel_rfl) (by kernel_rfl) @h
def s17_p3_F (K : Value → World → Prop) (B1 : List Value → World → Prop) (l : List Value) (w : World) : Prop :=
  match l with
  | [t0, t3, t4] => s17_p2 K B1 t0 t3 t4 w
  | _ => False
theorem s17_p3_Fe {K : Value → World → Prop} {B1 : List Value → World → Prop} {t0 t3 t4 : Value} {w : World} : s17_p3_F K B1 [t0, t3, t4] w = s17_p2 K B1 t0 t3 t4 w := by kernel_rfl
def s17_p3 (K : Value → World → Prop) (t0 t3 t4 : Value) (w : World) : Prop :=
  LoopL (s17_p3_F K) [t0, t3, t4] w
def s17_p3_den (K : Value → World → Prop) : (Nat → Value) → World → Prop := fun s w => LoopP (fun M1 s w => s17_p2_den K M1 s w) s w
theorem s17_p3_ok (K : Value → World → Prop) (s : Nat → Value) (w : World) (h : s17_p3 K (s 0) (s 3) (s 4) w) : Tr (s17_p3_den K s w) :=
  tr_loop (G := fun N' s w => s17_p2_den K N' s w) (F := s17_p3_F K) (sel := fun s => [s 0, s 3, s 4]) (s := s) (w := w) (p := s17_p3 K (s 0) (s 3) (s 4) w) (q := s17_p3_den K s w) (fun B s w h => s17_p2_ok K B s w @h) (by kernel_rfl) (by kernel_rfl) @h
def s17_p4 (K : Value → World → Prop) (t0 : Value) (w : World) : Prop :=
  lnS t0 (fun t6 w =>
  boI .gtr t6 (.int .i64 65536) (fun t8 w =>
  ifb t8
  (K (.bool false) w)
  (s17_p3 K t0 t6 (.int .i64 0) w)) w) w
def s17_p4_den (K : Value → World → Prop) : (Nat → Value) → World → Prop := denL Tryz.prog [(cd (Tryz.f17.body.getD .skip) [0]), (cd (Tryz.f17.body.getD .skip) [1, 0]), (cd (Tryz.f17.body.getD .skip) [1, 1, 0, 0]), (cd (Tryz.f17.body.getD .skip) [1, 1, 0, 1]), (cd (Tryz.f17.body.getD .skip) [1, 1, 1, 0, 0])] (s17_p3_den K) (fun i => (fun _ _ => False)) (s17_R K)
theorem s17_p4_ok (K : Value → World → Prop) (s : Nat → Value) (w : World) (h : s17_p4 K (s 0) w) : Tr (s17_p4_den K s w) :=
  tr_simple (P := Tryz.prog) (codes := [(cd (Tryz.f17.body.getD .skip) [0]), (cd (Tryz.f17.body.getD .skip) [1, 0]), (cd (Tryz.f17.body.getD .skip) [1, 1, 0, 0]), (cd (Tryz.f17.body.getD .skip) [1, 1, 0, 1]), (cd (Tryz.f17.body.getD .skip) [1, 1, 1, 0, 0])]) (N := (fun s w => s17_p3 K (s 0) (s 3) (s 4) w)) (N' := (s17_p3_den K)) (X := (fun i => (fun _ _ => False))) (X' := (fun i => (fun _ _ => False))) (R := s17_R K) (s := s) (w := w) (p := s17_p4 K (s 0) w) (q := s17_p4_den K s w) (fun s w h => s17_p3_ok K s w @h) (fun i => tr_id) (by kernel_rfl) (by kernel_rfl) @h
/-- the call, from the text -/
theorem c17 (t0 : Value) {K : Value → World → Prop} {w : World} (h : s17_p4 K t0 w) : cl Tryz.prog 17 #[t0] K w :=
  calls_of_tr (c := (Tryz.f17.body.getD .skip)) (fn := Tryz.f17) (q := s17_p4_den K (st0 #[t0]) w) Tryz.func17 (by kernel_rfl) (by kernel_rfl) (Nat.le_of_ble_eq_true (by kernel_rfl)) (by kernel_rfl) (by kernel_rfl) (s17_p4_ok K (st0 #[t0]) w @h)

/-! ### function 22 : e2e.enginelaw.isRequest -/
def s22_R (K : Value → World → Prop) (s : Nat → Value) (w : World) : Prop := retv Tryz.prog s Tryz.f22.results.toList (fun vs => K (pack vs) w) w
def s22_p1 (K : Value → World → Prop) (t0 : Value) (w : World) : Prop :=
  nw 39 (t0).cells (fun t1 w =>
  fd 0 t1 (fun t3 w =>
  ld1 t3 (fun t4 w =>
  boI .eql t4 (.int .i64 0) (fun t5 w =>
  gd t5 false (fd 0 t1) (fun t7 w =>
  gd t5 false (ld1 t7) (fun t8 w =>
  gd t5 false (boI .eql t8 (.int .i64 4)) (fun t9 w =>
  pk t5 (.bool true) t9 (fun t10 w =>
  K t10 w) w) w) w) w) w) w) w) w
def s22_p1_den (K : Value → World → Prop) : (Nat → Value) → World → Prop := denL Tryz.prog [(cd (Tryz.f22.body.getD .skip) [0]), (cd (Tryz.f22.body.getD .skip) [1, 0]), (cd (Tryz.f22.body.getD .skip) [1, 1])] (fun _ _ => False) (fun i => (fun _ _ => False)) (s22_R K)
theorem s22_p1_ok (K : Value → World → Prop) (s : Nat → Value) (w : World) (h : s22_p1 K (s 0) w) : Tr (s22_p1_den K s w) :=
  tr_simple (P := Tryz.prog) (codes := [(cd (Tryz.f22.body.getD .skip) [0]), (cd (Tryz.f22.body.getD .skip) [1, 0]), (cd (Tryz.f22.body.getD .skip) [1, 1])]) (N := (fun _ _ => False)) (N' := (fun _ _ => False)) (X := (fun i => (fun _ _ => False))) (X' := (fun i => (fun _ _ => False))) (R := s22_R K) (s := s) (w := w) (p := s22_p1 K (s 0) w) (q := s22_p1_den K s w) tr_id (fun i => tr_id) (by kernel_rfl) (by kernel_rfl) @h
/-- the call, from the text -/
theorem c22 (t0 : Value) {K : Value → World → Prop} {w : World} (h : s22_p1 K t0 w) : cl Tryz.prog 22 #[t0] K w :=
  calls_of_tr (c := (Tryz.f22.body.getD .skip)) (fn := Tryz.f22) (q := s22_p1_den K (st0 #[t0]) w) Tryz.func22 (by kernel_rfl) (by kernel_rfl) (Nat.le_of_ble_eq_true (by kernel_rfl)) (by kernel_rfl) (by kernel_rfl) (s22_p1_ok K (st0 #[t0]) w @h)

/-! ### function 23 : e2e.enginelaw.sameBytes -/
def s23_R (K : Value → World → Prop) (s : Nat → Value) (w : World) : Prop := retv Tryz.prog s Tryz.f23.results.toList (fun vs => K (pack vs) w) w
def s23_p1 (K : Value → World → Prop) (w : World) : Prop :=
  K (.bool true) w
def s23_p1_den (K : Value → World → Prop) : (Nat → Value) → World → Prop := denL Tryz.prog [(cd (Tryz.f23.body.getD .skip) [1, 1, 1, 0]), (cd (Tryz.f23.body.getD .skip) [1, 1, 1, 1])] (fun _ _ => False) (fun i => (fun _ _ => False)) (s23_R K)
theorem s23_p1_ok (K : Value → World → Prop) (s : Nat → Value) (w : World) (h : s23_p1 K w) : Tr (s23_p1_den K s w) :=
  tr_simple (P := Tryz.prog) (codes := [(cd (Tryz.f23.body.getD .skip) [1, 1, 1, 0]), (cd (Tryz.f23.body.getD .skip) [1, 1, 1, 1])]) (N := (fun _ _ => False)) (N' := (fun _ _ => False)) (X := (fun i => (fun _ _ => False))) (X' := (fun i => (fun _ _ => False))) (R := s23_R K) (s := s) (w := w) (p := s23_p1 K w) (q := s23_p1_den K s w) tr_id (fun i => tr_id) (by kernel_rfl) (by kernel_rfl) @h
def s23_p2 (K : Value → World → Prop) (B1 : List Value → World → Prop) (t0 t1 t12 t13 : Value) (w : World) : Prop :=
  boI .add t13 (.int .i64 1) (fun t25 w =>
  B1 [t0, t1, t12, t25] w) w
def s23_p2_den (K : Value → World → Prop) (M1 : (Nat → Value) → World → Prop) : (Nat → Value) → World → Prop := denL Tryz.prog [(cd (Tryz.f23.body.getD .skip) [1, 1, 0, 1, 0, 0, 1, 1, 1])] M1 (fun i => (bif Nat.beq i 0 then (s23_p1_den K) else (fun _ _ => False))) (s23_R K)
theorem s23_p2_ok (K : Value → World → Prop) (B1 : List Value → World → Prop) (s : Nat → Value) (w : World) (h : s23_p2 K B1 (s 0) (s 1) (s 12) (s 13) w) : Tr (s23_p2_den K (fun s w => B1 [s 0, s 1, s 12, s 13] w) s w) :=
  tr_simple (P := Tryz.prog) (codes := [(cd (Tryz.f23.body.getD .skip) [1, 1, 0, 1, 0, 0, 1, 1, 1])]) (N := (fun s w => B1 [s 0, s 1, s 12, s 13] w)) (N' := (fun s w => B1 [s 0, s 1, s 12, s 13] w)) (X := (fun i => (bif Nat.beq i 0 then (fun s w => s23_p1 K w) else (fun _ _ => False)))) (X' := (fun i => (bif Nat.beq i 0 then (s23_p1_den K) else (fun _ _ => False)))) (R := s23_R K) (s := s) (w := w) (p := s23_p2 K B1 (s 0) (s 1) (s 12) (s 13) w) (q := s23_p2_den K (fun s w => B1 [s 0, s 1, s 12, s 13] w) s w) tr_id (fun i => (tr_bif (fun s w h => s23_p1_ok K s w @h) tr_id)) (by kernel_rfl) (by kernel_rfl) @h
def s23_p3 (K : Value → World → Prop) (B1 : List Value → World → Prop) (t0 t1 t12 t13 t24 : Value) (w : World) : Prop :=
  ifb t24
  (K (.bool false) w)
  (s23_p2 K B1 t0 t1 t12 t13 w)
def s23_p3_den (K : Value → World → Prop) (M1 : (Nat → Value) → World → Prop) : (Nat → Value) → World → Prop := denL Tryz.prog [(cd (Tryz.f23.body.getD .skip) [1, 1, 0, 1, 0, 0, 1, 1, 0, 0, 1, 1])] (s23_p2_den K M1) (fun i => (bif Nat.beq i 1 then (s23_p2_den K M1) else (bif Nat.beq i 0 then (s23_p1_den K) else (fun _ _ => False)))) (s23_R K)
theorem s23_p3_ok (K : Value → World → Prop) (B1 : List Value → World → Prop) (s : Nat → Value) (w : World) (h : s23_p3 K B1 (s 0) (s 1) (s 12) (s 13) (s 24) w) : Tr (s23_p3_den K (fun s w => B1 [s 0, s 1, s 12, s 13] w) s w) :=
  tr_simple (P := Tryz.prog) (codes := [(cd (Tryz.f23.body.getD .skip) [1, 1, 0, 1, 0, 0, 1, 1, 0, 0, 1, 1])]) (N := (fun s w => s23_p2 K B1 (s 0) (s 1) (s 12) (s 13) w)) (N' := (s23_p2_den K (fun s w => B1 [s 0, s 1, s 12, s 13] w))) (X := (fun i => (bif Nat.beq i 1 then (fun s w => s23_p2 K B1 (s 0) (s 1) (s 12) (s 13) w) else (bif Nat.beq i 0 then (fun s w => s23_p1 K w) else (fun _ _ => False))))) (X' := (fun i => (bif Nat.beq i 1 then (s23_p2_den K (fun s w => B1 [s 0, s 1, s 12, s 13] w)) else (bif Nat.beq i 0 then (s23_p1_den K) else (fun _ _ => False))))) (R := s23_R K) (s := s) (w := w) (p := s23_p3 K B1 (s 0) (s 1) (s 12) (s 13) (s 24) w) (q := s23_p3_den K (fun s w => B1 [s 0, s 1, s 12, s 13] w) s w) (fun s w h => s23_p2_ok K B1 s w @h) (fun i => (tr_bif (fun s w h => s23_p2_ok K B1 s w @h) (tr_bif (fun s w h => s23_p1_ok K s w @h) tr_id))) (by kernel_rfl) (by kernel_rfl) @h
def s23_p4_d (K : Value → World → Prop) (B1 : List Value → World → Prop) (t0 t1 t5 t12 t13 : Value) (w0 w : World) : Prop :=
  ixs 1 t0 t5 (fun t18 _ =>
  ld1 t18 (fun t19 _ =>
  ixs 1 t1 t5 (fun t22 _ =>
  ld1 t22 (fun t23 _ =>
  boI .neq t19 t23 (fun t24 _ =>
  s23_p3 K B1 t0 t1 t12 t13 t24 w) w0) w0) w0) w0) w0
def s23_p4 (K : Value → World → Prop) (B1 : List Value → World → Prop) (t0 t1 t5 t12 t13 : Value) (w : World) : Prop := s23_p4_d K B1 t0 t1 t5 t12 t13 (drw w) (drw w)
def s23_p4_den (K : Value → World → Prop) (M1 : (Nat → Value) → World → Prop) : (Nat → Value) → World → Prop := denL Tryz.prog [(cd (Tryz.f23.body.getD .skip) [1, 1, 0, 1, 0, 0, 1, 1, 0, 0, 1, 0])] (s23_p3_den K M1) (fun i => (bif Nat.beq i 1 then (s23_p2_den K M1) else (bif Nat.beq i 0 then (s23_p1_den K) else (fun _ _ => False)))) (s23_R K)
theorem s23_p4_ok (K : Value → World → Prop) (B1 : List Value → World → Prop) (s : Nat → Value) (w : World) (h : s23_p4 K B1 (s 0) (s 1) (s 5) (s 12) (s 13) w) : Tr (s23_p4_den K (fun s w => B1 [s 0, s 1, s 12, s 13] w) s w) :=
  tr_draw (P := Tryz.prog) (ops := (ro (cd (Tryz.f23.body.getD .skip) [1, 1, 0, 1, 0, 0, 1, 1, 0, 0, 1, 0]))) (ms := [0, 0, 3, 7, 0, 0, 48, 112, 255]) (cs := [0, 1, 2, 3, 4, 5, 6, 7, 8]) (N := (fun s w => s23_p3 K B1 (s 0) (s 1) (s 12) (s 13) (s 24) w)) (N' := (s23_p3_den K (fun s w => B1 [s 0, s 1, s 12, s 13] w))) (s := s) (w := w) (p := s23_p4 K B1 (s 0) (s 1) (s 5) (s 12) (s 13) w) (q := s23_p4_den K (fun s w => B1 [s 0, s 1, s 12, s 13] w) s w) (by kernel_rfl) (by kernel_rfl) (fun s w h => s23_p3_ok K B1 s w @h) (by kernel_rfl) (by kernel_rfl) @h
def s23_p5 (K : Value → World → Prop) (B1 : List Value → World → Prop) (t0 t1 t12 t13 : Value) (w : World) : Prop :=
  s23_p4 K B1 t0 t1 t13 t12 t13 w
def s23_p5_den (K : Value → World → Prop) (M1 : (Nat → Value) → World → Prop) : (Nat → Value) → World → Prop := denL Tryz.prog [(cd (Tryz.f23.body.getD .skip) [1, 1, 0, 1, 0, 0, 1, 1, 0, 0, 0])] (s23_p4_den K M1) (fun i => (bif Nat.beq i 1 then (s23_p2_den K M1) else (bif Nat.beq i 0 then (s23_p1_den K) else (fun _ _ => False)))) (s23_R K)
theorem s23_p5_ok (K : Value → World → Prop) (B1 : List Value → World → Prop) (s : Nat → Value) (w : World) (h : s23_p5 K B1 (s 0) (s 1) (s 12) (s 13) w) : Tr (s23_p5_den K (fun s w => B1 [s 0, s 1, s 12, s 13] w) s w) :=
  tr_simple (P := Tryz.prog) (codes := [(cd (Tryz.f23.body.getD .skip) [1, 1, 0, 1, 0, 0, 1, 1, 0, 0, 0])]) (N := (fun s w => s23_p4 K B1 (s 0) (s 1) (s 5) (s 12) (s 13) w)) (N' := (s23_p4_den K (fun s w => B1 [s 0, s 1, s 12, s 13] w))) (X := (fun i => (bif Nat.beq i 1 then (fun s w => s23_p2 K B1 (s 0) (s 1) (s 12) (s 13) w) else (bif Nat.beq i 0 then (fun s w => s23_p1 K w) else (fun _ _ => False))))) (X' := (fun i => (bif Nat.beq i 1 then (s23_p2_den K (fun s w => B1 [s 0, s 1, s 12, s 13] w)) else (bif Nat.beq i 0 then (s23_p1_den K) else (fun _ _ => False))))) (R := s23_R K) (s := s) (w := w) (p := s23_p5 K B1 (s 0) (s 1) (s 12) (s 13) w) (q := s23_p5_den K (fun s w => B1 [s 0, s 1, s 12, s 13] w) s w) (fun s w h => s23_p4_ok K B1 s w @h) (fun i => (tr_bif (fun s w h => s23_p2_ok K B1 s w @h) (tr_bif (fun s w h => s23_p1_ok K s w @h) tr_id))) (by kernel_rfl) (by kernel_rfl) @h
def s23_p6 (K : Value → World → Prop) (B1 : List Value → World → Prop) (t0 t1 t12 t13 : Value) (w : World) : Prop :=
  boI .lss t13 t12 (fun t14 w =>
  ifb t14
  (s23_p5 K B1 t0 t1 t12 t13 w)
  (s23_p1 K w)) w
def s23_p6_den (K : Value → World → Prop) (M1 : (Nat → Value) → World → Prop) : (Nat → Value) → World → Prop := denL Tryz.prog [(cd (Tryz.f23.body.getD .skip) [1, 1, 0, 1, 0, 0, 0]), (cd (Tryz.f23.body.getD .skip) [1, 1, 0, 1, 0, 0, 1, 0])] (s23_p5_den K M1) (fun i => (bif Nat.beq i 0 then (s23_p1_den K) else (fun _ _ => False))) (s23_R K)
theorem s23_p6_ok (K : Value → World → Prop) (B1 : List Value → World → Prop) (s : Nat → Value) (w : World) (h : s23_p6 K B1 (s 0) (s 1) (s 12) (s 13) w) : Tr (s23_p6_den K (fun s w => B1 [s 0, s 1, s 12, s 13] w) s w) :=
  tr_simple (P := Tryz.prog) (codes := [(cd (Tryz.f23.body.getD .skip) [1, 1, 0, 1, 0, 0, 0]), (cd (Tryz.f23.body.getD .skip) [1, 1, 0, 1, 0, 0, 1, 0])]) (N := (fun s w => s23_p5 K B1 (s 0) (s 1) (s 12) (s 13) w)) (N' := (s23_p5_den K (fun s w => B1 [s 0, s 1, s 12, s 13] w))) (X := (fun i => (bif Nat.beq i 0 then (fun s w => s23_p1 K w) else (fun _ _ => False)))) (X' := (fun i => (bif Nat.beq i 0 then (s23_p1_den K) else (fun _ _ => False)))) (R := s23_R K) (s := s) (w := w) (p := s23_p6 K B1 (s 0) (s 1) (s 12) (s 13) w) (q := s23_p6_den K (fun s w => B1 [s 0, s 1, s 12, s 13] w) s w) (fun s w h => s23_p5_ok K B1 s w @h) (fun i => (tr_bif (fun s w h => s23_p1_ok K s w @h) tr_id)) (by kernel_rfl) (by kernel_rfl) @h
def s23_p7_F (K : Value → World → Prop) (B1 : List Value → World → Prop) (l : List Value) (w : World) : Prop :=
  match l with
  | [t0, t1, t12, t13] => s23_p6 K B1 t0 t1 t12 t13 w
  | _ => False
theorem s23_p7_Fe {K : Value → World → Prop} {B1 : List Value → World → Prop} {t0 t1 t12 t13 : Value} {w : World} : s23_p7_F K B1 [t0, t1, t12, t13] w = s23_p6 K B1 t0 t1 t12 t13 w := by kernel_rfl
def s23_p7 (K : Value → World → Prop) (t0 t1 t12 t13 : Value) (w : World) : Prop :=
  LoopL (s23_p7_F K) [t0, t1, t12, t13] w
def s23_p7_den (K : Value → World → Prop) : (Nat → Value) → World → Prop := fun s w => LoopP (fun M1 s w => s23_p6_den K M1 s w) s w
theorem s23_p7_ok (K : Value → World → Prop) (s : Nat → Value) (w : World) (h : s23_p7 K (s 0) (s 1) (s 12) (s 13) w) : Tr (s23_p7_den K s w) :=
  tr_loop (G := fun N' s w => s23_p6_den K N' s w) (F := s23_p7_F K) (sel := fun s => [s 0, s 1, s 12, s 13]) (s := s) (w := w) (p := s23_p7 K (s 0) (s 1) (s 12) (s 13) w) (q := s23_p7_den K s w) (fun B s w h => s23_p6_ok K B s w @h) (by kernel_rfl) (by kernel_rfl) @h
def s23_p8 (K : Value → World → Prop) (t0 t1 : Value) (w : World) : Prop :=
  lnS t0 (fun t7 w =>
  lnS t1 (fun t9 w =>
  boI .neq t7 t9 (fun t10 w =>
  ifb t10
  (K (.bool false) w)
  (lnS t0 (fun t12 w =>
  s23_p7 K t0 t1 t12 (.int .i64 0) w) w)) w) w) w
def s23_p8_den (K : Value → World → Prop) : (Nat → Value) → World → Prop := denL Tryz.prog [(cd (Tryz.f23.body.getD .skip) [0]), (cd (Tryz.f23.body.getD .skip) [1, 0, 0]), (cd (Tryz.f23.body.getD .skip) [1, 0, 1]), (cd (Tryz.f23.body.getD .skip) [1, 1, 0, 0])] (s23_p7_den K) (fun i => (fun _ _ => False)) (s23_R K)
theorem s23_p8_ok (K : Value → World → Prop) (s : Nat → Value) (w : World) (h : s23_p8 K (s 0) (s 1) w) : Tr (s23_p8_den K s w) :=
  tr_simple (P := Tryz.prog) (codes := [(cd (Tryz.f23.body.getD .skip) [0]), (cd (Tryz.f23.body.getD .skip) [1, 0, 0]), (cd (Tryz.f23.body.getD .skip) [1, 0, 1]), (cd (Tryz.f23.body.getD .skip) [1, 1, 0, 0])]) (N := (fun s w => s23_p7 K (s 0) (s 1) (s 12) (s 13) w)) (N' := (s23_p7_den K)) (X := (fun i => (fun _ _ => False))) (X' := (fun i => (fun _ _ => False))) (R := s23_R K) (s := s) (w := w) (p := s23_p8 K (s 0) (s 1) w) (q := s23_p8_den K s w) (fun s w h => s23_p7_ok K s w @h) (fun i => tr_id) (by kernel_rfl) (by kernel_rfl) @h
/-- the call, from the text -/
theorem c23 (t0 t1 : Value) {K : Value → World → Prop} {w : World} (h : s23_p8 K t0 t1 w) : cl Tryz.prog 23 #[t0, t1] K w :=
  calls_of_tr (c := (Tryz.f23.body.getD .skip)) (fn := Tryz.f23) (q := s23_p8_den K (st0 #[t0, t1]) w) Tryz.func23 (by kernel_rfl) (by kernel_rfl) (Nat.le_of_ble_eq_true (by kernel_rfl)) (by kernel_rfl) (by kernel_rfl) (s23_p8_ok K (st0 #[t0, t1]) w @h)

/-! ### function 24 : (*e2e.enginelaw.rig).send -/
def s24_R (K : Value → World → Prop) (s : Nat → Value) (w : World) : Prop := retv Tryz.prog s Tryz.f24.results.toList (fun vs => K (pack vs) w) w
def s24_p1 (K : Value → World → Prop) (t0 t1 : Value) (w : World) : Prop :=
  nck t0 (fun t6 w =>
  fd 1 t6 (fun t7 w =>
  ld1 t7 (fun t8 w =>
  boP .eql t8 (.pointer none) (fun t9 w =>
  ifb t9
  (bsq 5 [(.int .u8 0)] 1 [(some (0, 1), (.int .u8 19))] (fun t10 w =>
  K t10 w) w)
  (nck t0 (fun t12 w =>
  fd 1 t12 (fun t13 w =>
  ld1 t13 (fun t14 w =>
  cl Tryz.prog 40 #[t14, t1] (fun t16 w =>
  K t16 w) w) w) w) w)) w) w) w) w
def s24_p1_den (K : Value → World → Prop) : (Nat → Value) → World → Prop := denL Tryz.prog [(cd (Tryz.f24.body.getD .skip) [0]), (cd (Tryz.f24.body.getD .skip) [1, 0, 0]), (cd (Tryz.f24.body.getD .skip) [1, 0, 1]), (cd (Tryz.f24.body.getD .skip) [1, 1, 0]), (cd (Tryz.f24.body.getD .skip) [1, 1, 1])] (fun _ _ => False) (fun i => (fun _ _ => False)) (s24_R K)
theorem s24_p1_ok (K : Value → World → Prop) (s : Nat → Value) (w : World) (h : s24_p1 K (s 0) (s 1) w) : Tr (s24_p1_den K s w) :=
  tr_simple (P := Tryz.prog) (codes := [(cd (Tryz.f24.body.getD .skip) [0]), (cd (Tryz.f24.body.getD .skip) [1, 0, 0]), (cd (Tryz.f24.body.getD .skip) [1, 0, 1]), (cd (Tryz.f24.body.getD .skip) [1, 1, 0]), (cd (Tryz.f24.body.getD .skip) [1, 1, 1])]) (N := (fun _ _ => False)) (N' := (fun _ _ => False)) (X := (fun i => (fun _ _ => False))) (X' := (fun i => (fun _ _ => False))) (R := s24_R K) (s := s) (w := w) (p := s24_p1 K (s 0) (s 1) w) (q := s24_p1_den K s w) tr_id (fun i => tr_id) (by kernel_rfl) (by kernel_rfl) @h
/-- the call, from the text -/
theorem c24 (t0 t1 : Value) {K : Value → World → Prop} {w : World} (h : s24_p1 K t0 t1 w) : cl Tryz.prog 24 #[t0, t1] K w :=
  calls_of_tr (c := (Tryz.f24.body.getD .skip)) (fn := Tryz.f24) (q := s24_p1_den K (st0 #[t0, t1]) w) Tryz.func24 (by kernel_rfl) (by kernel_rfl) (Nat.le_of_ble_eq_true (by kernel_rfl)) (by kernel_rfl) (by kernel_rfl) (s24_p1_ok K (st0 #[t0, t1]) w @h)

/-! ### function 34 : (*e2e.enginelaw.rig).up -/
def s34_R (K : Value → World → Prop) (s : Nat → Value) (w : World) : Prop := retv Tryz.prog s Tryz.f34.results.toList (fun vs => K (pack vs) w) w
def s34_p1 (K : Value → World → Prop) (t0 : Value) (w : World) : Prop :=
  nck t0 (fun t4 w =>
  fd 1 t4 (fun t5 w =>
  ld1 t5 (fun t6 w =>
  boP .neq t6 (.pointer none) (fun t7 w =>
  gd t7 true (fun K w => K t0 w) (fun t9 w =>
  gd t7 true (nck t9) (fun t10 w =>
  gd t7 true (fd 1 t10) (fun t11 w =>
  gd t7 true (ld1 t11) (fun t12 w =>
  gd t7 true (cl Tryz.prog 111 #[t12]) (fun t13 w =>
  gd t7 true (un .not t13) (fun t14 w =>
  pk t7 t14 (.bool false) (fun t15 w =>
  K t15 w) w) w) w) w) w) w) w) w) w) w) w
def s34_p1_den (K : Value → World → Prop) : (Nat → Value) → World → Prop := denL Tryz.prog [(cd (Tryz.f34.body.getD .skip) [0]), (cd (Tryz.f34.body.getD .skip) [1, 0]), (cd (Tryz.f34.body.getD .skip) [1, 1])] (fun _ _ => False) (fun i => (fun _ _ => False)) (s34_R K)
theorem s34_p1_ok (K : Value → World → Prop) (s : Nat → Value) (w : World) (h : s34_p1 K (s 0) w) : Tr (s34_p1_den K s w) :=
  tr_simple (P := Tryz.prog) (codes := [(cd (Tryz.f34.body.getD .skip) [0]), (cd (Tryz.f34.body.getD .skip) [1, 0]), (cd (Tryz.f34.body.getD .skip) [1, 1])]) (N := (fun _ _ => False)) (N' := (fun _ _ => False)) (X := (fun i => (fun _ _ => False))) (X' := (fun i => (fun _ _ => False))) (R := s34_R K) (s := s) (w := w) (p := s34_p1 K (s 0) w) (q := s34_p1_den K s w) tr_id (fun i => tr_id) (by kernel_rfl) (by kernel_rfl) @h
/-- the call, from the text -/
theorem c34 (t0 : Value) {K : Value → World → Prop} {w : World} (h : s34_p1 K t0 w) : cl Tryz.prog 34 #[t0] K w :=
  calls_of_tr (c := (Tryz.f34.body.getD .skip)) (fn := Tryz.f34) (q := s34_p1_den K (st0 #[t0]) w) Tryz.func34 (by kernel_rfl) (by kernel_rfl) (Nat.le_of_ble_eq_true (by kernel_rfl)) (by kernel_rfl) (by kernel_rfl) (s34_p1_ok K (st0 #[t0]) w @h)

/-! ### function 33 : (*e2e.enginelaw.rig).reopen -/
def s33_R (K : Value → World → Prop) (s : Nat → Value) (w : World) : Prop := retv Tryz.prog s Tryz.f33.results.toList (fun vs => K (pack vs) w) w
def s33_p1 (K : Value → World → Prop) (t0 t5 t6 : Value) (w : World) : Prop :=
  nck t0 (fun t47 w =>
  fd 1 t47 (fun t48 w =>
  st1 t48 t5 (fun w =>
  cl Tryz.prog 51 #[t6] (fun t50 w =>
  K t50 w) w) w) w) w
def s33_p1_den (K : Value → World → Prop) : (Nat → Value) → World → Prop := denL Tryz.prog [(cd (Tryz.f33.body.getD .skip) [1, 1, 1, 1, 1, 0]), (cd (Tryz.f33.body.getD .skip) [1, 1, 1, 1, 1, 1, 0]), (cd (Tryz.f33.body.getD .skip) [1, 1, 1, 1, 1, 1, 1])] (fun _ _ => False) (fun i => (fun _ _ => False)) (s33_R K)
theorem s33_p1_ok (K : Value → World → Prop) (s : Nat → Value) (w : World) (h : s33_p1 K (s 0) (s 5) (s 6) w) : Tr (s33_p1_den K s w) :=
  tr_simple (P := Tryz.prog) (codes := [(cd (Tryz.f33.body.getD .skip) [1, 1, 1, 1, 1, 0]), (cd (Tryz.f33.body.getD .skip) [1, 1, 1, 1, 1, 1, 0]), (cd (Tryz.f33.body.getD .skip) [1, 1, 1, 1, 1, 1, 1])]) (N := (fun _ _ => False)) (N' := (fun _ _ => False)) (X := (fun i => (fun _ _ => False))) (X' := (fun i => (fun _ _ => False))) (R := s33_R K) (s := s) (w := w) (p := s33_p1 K (s 0) (s 5) (s 6) w) (q := s33_p1_den K s w) tr_id (fun i => tr_id) (by kernel_rfl) (by kernel_rfl) @h
def s33_p2_d (K : Value → World → Prop) (t0 : Value) (w0 w : World) : Prop :=
  nck t0 (fun t39 _ =>
  fd 0 t39 (fun t40 _ =>
  ld1 t40 (fun t41 _ =>
  cl Tryz.prog 21 #[] (fun t37 w =>
  Below w0.heap.size w0 w ∧
  cl Tryz.prog 38 #[t37, t41] (fun t42 w =>
  (exq t42 0 (fun t43 w =>
  (exq t42 1 (fun t44 w =>
  s33_p1 K t0 t43 t44 w) w) ∧
  (exq t42 1 (fun t44_2 w =>
  s33_p1 K t0 t43 t44_2 w) w)) w) ∧
  (exq t42 1 (fun t44_3 w =>
  exq t42 0 (fun t43_2 w =>
  s33_p1 K t0 t43_2 t44_3 w) w) w)) w) w) w0) w0) w0
def s33_p2 (K : Value → World → Prop) (t0 : Value) (w : World) : Prop := s33_p2_d K t0 (drw w) (drw w)
def s33_p2_den (K : Value → World → Prop) : (Nat → Value) → World → Prop := denL Tryz.prog [(cd (Tryz.f33.body.getD .skip) [1, 1, 1, 1, 0])] (s33_p1_den K) (fun i => (fun _ _ => False)) (s33_R K)
theorem s33_p2_ok (K : Value → World → Prop) (s : Nat → Value) (w : World) (h : s33_p2 K (s 0) w) : Tr (s33_p2_den K s w) :=
  tr_draw (P := Tryz.prog) (ops := (ro (cd (Tryz.f33.body.getD .skip) [1, 1, 1, 1, 0]))) (ms := [0, 0, 2, 6, 14, 31, 63, 127, 127, 255, 1023]) (cs := [1, 2, 3, 4]) (N := (fun s w => s33_p1 K (s 0) (s 5) (s 6) w)) (N' := (s33_p1_den K)) (s := s) (w := w) (p := s33_p2 K (s 0) w) (q := s33_p2_den K s w) (by kernel_rfl) (by kernel_rfl) (fun s w h => s33_p1_ok K s w @h) (by kernel_rfl) (by kernel_rfl) @h
def s33_p3_d (K : Value → World → Prop) (t0 t3 : Value) (w0 w : World) : Prop :=
  nck t0 (fun t28 _ =>
  fd 0 t28 (fun t29 _ =>
  ld1 t29 (fun t30 _ =>
  fd 2 t3 (fun t31 _ =>
  ld1 t31 (fun t32 _ =>
  fd 3 t3 (fun t33 _ =>
  ld1 t33 (fun t34 _ =>
  cl Tryz.prog 32 #[t30, t32, t34] (fun t35 w =>
  s33_p2 K t0 w) w) w0) w0) w0) w0) w0) w0) w0
def s33_p3 (K : Value → World → Prop) (t0 t3 : Value) (w : World) : Prop := s33_p3_d K t0 t3 (drw w) (drw w)
def s33_p3_den (K : Value → World → Prop) : (Nat → Value) → World → Prop := denL Tryz.prog [(cd (Tryz.f33.body.getD .skip) [1, 1, 1, 0])] (s33_p2_den K) (fun i => (fun _ _ => False)) (s33_R K)
theorem s33_p3_ok (K : Value → World → Prop) (s : Nat → Value) (w : World) (h : s33_p3 K (s 0) (s 3) w) : Tr (s33_p3_den K s w) :=
  tr_draw (P := Tryz.prog) (ops := (ro (cd (Tryz.f33.body.getD .skip) [1, 1, 1, 0]))) (ms := [0, 1, 3, 7, 0, 16, 0, 64, 255]) (cs := [0, 1, 2, 3, 4, 5, 6, 7]) (N := (fun s w => s33_p2 K (s 0) w)) (N' := (s33_p2_den K)) (s := s) (w := w) (p := s33_p3 K (s 0) (s 3) w) (q := s33_p3_den K s w) (by kernel_rfl) (by kernel_rfl) (fun s w h => s33_p2_ok K s w @h) (by kernel_rfl) (by kernel_rfl) @h
def s33_p4 (K : Value → World → Prop) (t0 t3 : Value) (w : World) : Prop :=
  nck t0 (fun t23 w =>
  fd 0 t23 (fun t24 w =>
  ld1 t24 (fun t25 w =>
  cl Tryz.prog 110 #[t25] (fun t26 w =>
  s33_p3 K t0 t3 w) w) w) w) w
def s33_p4_den (K : Value → World → Prop) : (Nat → Value) → World → Prop := denL Tryz.prog [(cd (Tryz.f33.body.getD .skip) [1, 1, 0])] (s33_p3_den K) (fun i => (fun _ _ => False)) (s33_R K)
theorem s33_p4_ok (K : Value → World → Prop) (s : Nat → Value) (w : World) (h : s33_p4 K (s 0) (s 3) w) : Tr (s33_p4_den K s w) :=
  tr_simple (P := Tryz.prog) (codes := [(cd (Tryz.f33.body.getD .skip) [1, 1, 0])]) (N := (fun s w => s33_p3 K (s 0) (s 3) w)) (N' := (s33_p3_den K)) (X := (fun i => (fun _ _ => False))) (X' := (fun i => (fun _ _ => False))) (R := s33_R K) (s := s) (w := w) (p := s33_p4 K (s 0) (s 3) w) (q := s33_p4_den K s w) (fun s w h => s33_p3_ok K s w @h) (fun i => tr_id) (by kernel_rfl) (by kernel_rfl) @h
def s33_p5_d (K : Value → World → Prop) (t0 t3 : Value) (w0 w : World) : Prop :=
  nck t0 (fun t16 _ =>
  fd 0 t16 (fun t17 _ =>
  ld1 t17 (fun t18 _ =>
  fd 3 t3 (fun t19 _ =>
  ld1 t19 (fun t20 _ =>
  cl Tryz.prog 109 #[t18, t20] (fun t21 w =>
  s33_p4 K t0 t3 w) w) w0) w0) w0) w0) w0
def s33_p5 (K : Value → World → Prop) (t0 t3 : Value) (w : World) : Prop := s33_p5_d K t0 t3 (drw w) (drw w)
def s33_p5_den (K : Value → World → Prop) : (Nat → Value) → World → Prop := denL Tryz.prog [(cd (Tryz.f33.body.getD .skip) [1, 0, 1, 0])] (s33_p4_den K) (fun i => (fun _ _ => False)) (s33_R K)
theorem s33_p5_ok (K : Value → World → Prop) (s : Nat → Value) (w : World) (h : s33_p5 K (s 0) (s 3) w) : Tr (s33_p5_den K s w) :=
  tr_draw (P := Tryz.prog) (ops := (ro (cd (Tryz.f33.body.getD .skip) [1, 0, 1, 0]))) (ms := [0, 1, 3, 7, 0, 16, 63]) (cs := [0, 1, 2, 3, 4, 5]) (N := (fun s w => s33_p4 K (s 0) (s 3) w)) (N' := (s33_p4_den K)) (s := s) (w := w) (p := s33_p5 K (s 0) (s 3) w) (q := s33_p5_den K s w) (by kernel_rfl) (by kernel_rfl) (fun s w h => s33_p4_ok K s w @h) (by kernel_rfl) (by kernel_rfl) @h
def s33_p6 (K : Value → World → Prop) (t0 t3 t14 : Value) (w : World) : Prop :=
  ifb t14
  (s33_p5 K t0 t3 w)
  (s33_p4 K t0 t3 w)
def s33_p6_den (K : Value → World → Prop) : (Nat → Value) → World → Prop := fun s w => ifb (ev s (.tmp 14)) ((s33_p5_den K) s w) ((s33_p4_den K) s w)
theorem s33_p6_ok (K : Value → World → Prop) (s : Nat → Value) (w : World) (h : s33_p6 K (s 0) (s 3) (s 14) w) : Tr (s33_p6_den K s w) :=
  tr_cond (v := ev s (.tmp 14)) (a := (fun s w => s33_p5 K (s 0) (s 3) w) s w) (a' := (s33_p5_den K) s w) (b := (fun s w => s33_p4 K (s 0) (s 3) w) s w) (b' := (s33_p4_den K) s w) (p := s33_p6 K (s 0) (s 3) (s 14) w) (q := s33_p6_den K s w) ((fun s w h => s33_p5_ok K s w @h) s w) ((fun s w h => s33_p4_ok K s w @h) s w) (by kernel_rfl) (by kernel_rfl) @h
def s33_p7 (K : Value → World → Prop) (t0 t1 : Value) (w : World) : Prop :=
  nw 39 (t1).cells (fun t3 w =>
  nck t0 (fun t8 w =>
  fd 0 t8 (fun t9 w =>
  ld1 t9 (fun t10 w =>
  nck t10 (fun t11 w =>
  fd 7 t11 (fun t12 w =>
  ld1 t12 (fun t13 w =>
  un .not t13 (fun t14 w =>
  s33_p6 K t0 t3 t14 w) w) w) w) w) w) w) w) w
def s33_p7_den (K : Value → World → Prop) : (Nat → Value) → World → Prop := denL Tryz.prog [(cd (Tryz.f33.body.getD .skip) [0]), (cd (Tryz.f33.body.getD .skip) [1, 0, 0])] (s33_p6_den K) (fun i => (fun _ _ => False)) (s33_R K)
theorem s33_p7_ok (K : Value → World → Prop) (s : Nat → Value) (w : World) (h : s33_p7 K (s 0) (s 1) w) : Tr (s33_p7_den K s w) :=
  tr_simple (P := Tryz.prog) (codes := [(cd (Tryz.f33.body.getD .skip) [0]), (cd (Tryz.f33.body.getD .skip) [1, 0, 0])]) (N := (fun s w => s33_p6 K (s 0) (s 3) (s 14) w)) (N' := (s33_p6_den K)) (X := (fun i => (fun _ _ => False))) (X' := (fun i => (fun _ _ => False))) (R := s33_R K) (s := s) (w := w) (p := s33_p7 K (s 0) (s 1) w) (q := s33_p7_den K s w) (fun s w h => s33_p6_ok K s w @h) (fun i => tr_id) (by kernel_rfl) (by kernel_rfl) @h
/-- the call, from the text -/
theorem c33 (t0 t1 : Value) {K : Value → World → Prop} {w : World} (h : s33_p7 K t0 t1 w) : cl Tryz.prog 33 #[t0, t1] K w :=
  calls_of_tr (c := (Tryz.f33.body.getD .skip)) (fn := Tryz.f33) (q := s33_p7_den K (st0 #[t0, t1]) w) Tryz.func33 (by kernel_rfl) (by kernel_rfl) (Nat.le_of_ble_eq_true (by kernel_rfl)) (by kernel_rfl) (by kernel_rfl) (s33_p7_ok K (st0 #[t0, t1]) w @h)

/-! ### function 37 : (*e2e.enginelaw.rig).batch -/
def s37_R (K : Value → World → Prop) (s : Nat → Value) (w : World) : Prop := retv Tryz.prog s Tryz.f37.results.toList (fun vs => K (pack vs) w) w
def s37_p1 (K : Value → World → Prop) (t0 t1 : Value) (w : World) : Prop :=
  nck t0 (fun t27 w =>
  fd 1 t27 (fun t28 w =>
  ld1 t28 (fun t29 w =>
  cl Tryz.prog 118 #[t29, t1] (fun t31 w =>
  K t31 w) w) w) w) w
def s37_p1_den (K : Value → World → Prop) : (Nat → Value) → World → Prop := denL Tryz.prog [(cd (Tryz.f37.body.getD .skip) [1, 1, 0]), (cd (Tryz.f37.body.getD .skip) [1, 1, 1])] (fun _ _ => False) (fun i => (fun _ _ => False)) (s37_R K)
theorem s37_p1_ok (K : Value → World → Prop) (s : Nat → Value) (w : World) (h : s37_p1 K (s 0) (s 1) w) : Tr (s37_p1_den K s w) :=
  tr_simple (P := Tryz.prog) (codes := [(cd (Tryz.f37.body.getD .skip) [1, 1, 0]), (cd (Tryz.f37.body.getD .skip) [1, 1, 1])]) (N := (fun _ _ => False)) (N' := (fun _ _ => False)) (X := (fun i => (fun _ _ => False))) (X' := (fun i => (fun _ _ => False))) (R := s37_R K) (s := s) (w := w) (p := s37_p1 K (s 0) (s 1) w) (q := s37_p1_den K s w) tr_id (fun i => tr_id) (by kernel_rfl) (by kernel_rfl) @h
def s37_p2 (K : Value → World → Prop) (t5 : Value) (w : World) : Prop :=
  K t5 w
def s37_p2_den (K : Value → World → Prop) : (Nat → Value) → World → Prop := denL Tryz.prog [(cd (Tryz.f37.body.getD .skip) [1, 0, 1, 0, 1, 1, 0]), (cd (Tryz.f37.body.getD .skip) [1, 0, 1, 0, 1, 1, 1])] (fun _ _ => False) (fun i => (fun _ _ => False)) (s37_R K)
theorem s37_p2_ok (K : Value → World → Prop) (s : Nat → Value) (w : World) (h : s37_p2 K (s 5) w) : Tr (s37_p2_den K s w) :=
  tr_simple (P := Tryz.prog) (codes := [(cd (Tryz.f37.body.getD .skip) [1, 0, 1, 0, 1, 1, 0]), (cd (Tryz.f37.body.getD .skip) [1, 0, 1, 0, 1, 1, 1])]) (N := (fun _ _ => False)) (N' := (fun _ _ => False)) (X := (fun i => (fun _ _ => False))) (X' := (fun i => (fun _ _ => False))) (R := s37_R K) (s := s) (w := w) (p := s37_p2 K (s 5) w) (q := s37_p2_den K s w) tr_id (fun i => tr_id) (by kernel_rfl) (by kernel_rfl) @h
def s37_p3 (K : Value → World → Prop) (B1 : List Value → World → Prop) (t5 t16 t17 : Value) (w : World) : Prop :=
  boI .lss t17 t16 (fun t18 w =>
  ifb t18
  (bsq 5 [(.int .u8 0)] 1 [(some (0, 1), (.int .u8 19))] (fun t22 w =>
  ixs 1 t5 t17 (fun t23 w =>
  st1 t23 t22 (fun w =>
  boI .add t17 (.int .i64 1) (fun t24 w =>
  B1 [t5, t16, t24] w) w) w) w) w)
  (s37_p2 K t5 w)) w
def s37_p3_den (K : Value → World → Prop) (M1 : (Nat → Value) → World → Prop) : (Nat → Value) → World → Prop := denL Tryz.prog [(cd (Tryz.f37.body.getD .skip) [1, 0, 1, 0, 1, 0, 1, 0, 0, 0]), (cd (Tryz.f37.body.getD .skip) [1, 0, 1, 0, 1, 0, 1, 0, 0, 1, 0]), (cd (Tryz.f37.body.getD .skip) [1, 0, 1, 0, 1, 0, 1, 0, 0, 1, 1, 0]), (cd (Tryz.f37.body.getD .skip) [1, 0, 1, 0, 1, 0, 1, 0, 0, 1, 1, 1])] M1 (fun i => (bif Nat.beq i 0 then (s37_p2_den K) else (fun _ _ => False))) (s37_R K)
theorem s37_p3_ok (K : Value → World → Prop) (B1 : List Value → World → Prop) (s : Nat → Value) (w : World) (h : s37_p3 K B1 (s 5) (s 16) (s 17) w) : Tr (s37_p3_den K (fun s w => B1 [s 5, s 16, s 17] w) s w) :=
  tr_simple (P := Tryz.prog) (codes := [(cd (Tryz.f37.body.getD .skip) [1, 0, 1, 0, 1, 0, 1, 0, 0, 0]), (cd (Tryz.f37.body.getD .skip) [1, 0, 1, 0, 1, 0, 1, 0, 0, 1, 0]), (cd (Tryz.f37.body.getD .skip) [1, 0, 1, 0, 1, 0, 1, 0, 0, 1, 1, 0]), (cd (Tryz.f37.body.getD .skip) [1, 0, 1, 0, 1, 0, 1, 0, 0, 1, 1, 1])]) (N := (fun s w => B1 [s 5, s 16, s 17] w)) (N' := (fun s w => B1 [s 5, s 16, s 17] w)) (X := (fun i => (bif Nat.beq i 0 then (fun s w => s37_p2 K (s 5) w) else (fun _ _ => False)))) (X' := (fun i => (bif Nat.beq i 0 then (s37_p2_den K) else (fun _ _ => False)))) (R := s37_R K) (s := s) (w := w) (p := s37_p3 K B1 (s 5) (s 16) (s 17) w) (q := s37_p3_den K (fun s w => B1 [s 5, s 16, s 17] w) s w) tr_id (fun i => (tr_bif (fun s w h => s37_p2_ok K s w @h) tr_id)) (by kernel_rfl) (by kernel_rfl) @h
def s37_p4_F (K : Value → World → Prop) (B1 : List Value → World → Prop) (l : List Value) (w : World) : Prop :=
  match l with
  | [t5, t16, t17] => s37_p3 K B1 t5 t16 t17 w
  | _ => False
theorem s37_p4_Fe {K : Value → World → Prop} {B1 : List Value → World → Prop} {t5 t16 t17 : Value} {w : World} : s37_p4_F K B1 [t5, t16, t17] w = s37_p3 K B1 t5 t16 t17 w := by kernel_rfl
def s37_p4 (K : Value → World → Prop) (t5 t16 t17 : Value) (w : World) : Prop :=
  LoopL (s37_p4_F K) [t5, t16, t17] w
def s37_p4_den (K : Value → World → Prop) : (Nat → Value) → World → Prop := fun s w => LoopP (fun M1 s w => s37_p3_den K M1 s w) s w
theorem s37_p4_ok (K : Value → World → Prop) (s : Nat → Value) (w : World) (h : s37_p4 K (s 5) (s 16) (s 17) w) : Tr (s37_p4_den K s w) :=
  tr_loop (G := fun N' s w => s37_p3_den K N' s w) (F := s37_p4_F K) (sel := fun s => [s 5, s 16, s 17]) (s := s) (w := w) (p := s37_p4 K (s 5) (s 16) (s 17) w) (q := s37_p4_den K s w) (fun B s w h => s37_p3_ok K B s w @h) (by kernel_rfl) (by kernel_rfl) @h
def s37_p5 (K : Value → World → Prop) (t1 : Value) (w : World) : Prop :=
  lnS t1 (fun t13 w =>
  mks 37 [(.slice none 0 0)] 24 t13 t13 (fun t14 w =>
  lnS t14 (fun t16 w =>
  s37_p4 K t14 t16 (.int .i64 0) w) w) w) w
def s37_p5_den (K : Value → World → Prop) : (Nat → Value) → World → Prop := denL Tryz.prog [(cd (Tryz.f37.body.getD .skip) [1, 0, 1, 0, 0]), (cd (Tryz.f37.body.getD .skip) [1, 0, 1, 0, 1, 0, 0])] (s37_p4_den K) (fun i => (fun _ _ => False)) (s37_R K)
theorem s37_p5_ok (K : Value → World → Prop) (s : Nat → Value) (w : World) (h : s37_p5 K (s 1) w) : Tr (s37_p5_den K s w) :=
  tr_simple (P := Tryz.prog) (codes := [(cd (Tryz.f37.body.getD .skip) [1, 0, 1, 0, 0]), (cd (Tryz.f37.body.getD .skip) [1, 0, 1, 0, 1, 0, 0])]) (N := (fun s w => s37_p4 K (s 5) (s 16) (s 17) w)) (N' := (s37_p4_den K)) (X := (fun i => (fun _ _ => False))) (X' := (fun i => (fun _ _ => False))) (R := s37_R K) (s := s) (w := w) (p := s37_p5 K (s 1) w) (q := s37_p5_den K s w) (fun s w h => s37_p4_ok K s w @h) (fun i => tr_id) (by kernel_rfl) (by kernel_rfl) @h
def s37_p6 (K : Value → World → Prop) (t0 t1 t11 : Value) (w : World) : Prop :=
  ifb t11
  (s37_p5 K t1 w)
  (s37_p1 K t0 t1 w)
def s37_p6_den (K : Value → World → Prop) : (Nat → Value) → World → Prop := fun s w => ifb (ev s (.tmp 11)) ((s37_p5_den K) s w) ((s37_p1_den K) s w)
theorem s37_p6_ok (K : Value → World → Prop) (s : Nat → Value) (w : World) (h : s37_p6 K (s 0) (s 1) (s 11) w) : Tr (s37_p6_den K s w) :=
  tr_cond (v := ev s (.tmp 11)) (a := (fun s w => s37_p5 K (s 1) w) s w) (a' := (s37_p5_den K) s w) (b := (fun s w => s37_p1 K (s 0) (s 1) w) s w) (b' := (s37_p1_den K) s w) (p := s37_p6 K (s 0) (s 1) (s 11) w) (q := s37_p6_den K s w) ((fun s w h => s37_p5_ok K s w @h) s w) ((fun s w h => s37_p1_ok K s w @h) s w) (by kernel_rfl) (by kernel_rfl) @h
def s37_p7 (K : Value → World → Prop) (t0 t1 : Value) (w : World) : Prop :=
  nck t0 (fun t8 w =>
  fd 1 t8 (fun t9 w =>
  ld1 t9 (fun t10 w =>
  boP .eql t10 (.pointer none) (fun t11 w =>
  s37_p6 K t0 t1 t11 w) w) w) w) w
def s37_p7_den (K : Value → World → Prop) : (Nat → Value) → World → Prop := denL Tryz.prog [(cd (Tryz.f37.body.getD .skip) [0]), (cd (Tryz.f37.body.getD .skip) [1, 0, 0])] (s37_p6_den K) (fun i => (fun _ _ => False)) (s37_R K)
theorem s37_p7_ok (K : Value → World → Prop) (s : Nat → Value) (w : World) (h : s37_p7 K (s 0) (s 1) w) : Tr (s37_p7_den K s w) :=
  tr_simple (P := Tryz.prog) (codes := [(cd (Tryz.f37.body.getD .skip) [0]), (cd (Tryz.f37.body.getD .skip) [1, 0, 0])]) (N := (fun s w => s37_p6 K (s 0) (s 1) (s 11) w)) (N' := (s37_p6_den K)) (X := (fun i => (fun _ _ => False))) (X' := (fun i => (fun _ _ => False))) (R := s37_R K) (s := s) (w := w) (p := s37_p7 K (s 0) (s 1) w) (q := s37_p7_den K s w) (fun s w h => s37_p6_ok K s w @h) (fun i => tr_id) (by kernel_rfl) (by kernel_rfl) @h
/-- the call, from the text -/
theorem c37 (t0 t1 : Value) {K : Value → World → Prop} {w : World} (h : s37_p7 K t0 t1 w) : cl Tryz.prog 37 #[t0, t1] K w :=
  calls_of_tr (c := (Tryz.f37.body.getD .skip)) (fn := Tryz.f37) (q := s37_p7_den K (st0 #[t0, t1]) w) Tryz.func37 (by kernel_rfl) (by kernel_rfl) (Nat.le_of_ble_eq_true (by kernel_rfl)) (by kernel_rfl) (by kernel_rfl) (s37_p7_ok K (st0 #[t0, t1]) w @h)

/-! ### function 29 : e2e.enginelaw.code -/
def s29_R (K : Value → World → Prop) (s : Nat → Value) (w : World) : Prop := retv Tryz.prog s Tryz.f29.results.toList (fun vs => K (pack vs) w) w
def s29_p1 (K : Value → World → Prop) (t0 : Value) (w : World) : Prop :=
  lnS t0 (fun t4 w =>
  boI .eql t4 (.int .i64 0) (fun t5 w =>
  ifb t5
  (K (.int .i64 (-1)) w)
  (ixs 1 t0 (.int .i64 0) (fun t7 w =>
  ld1 t7 (fun t8 w =>
  cvi .i64 t8 (fun t9 w =>
  K t9 w) w) w) w)) w) w
def s29_p1_den (K : Value → World → Prop) : (Nat → Value) → World → Prop := denL Tryz.prog [(cd (Tryz.f29.body.getD .skip) [0]), (cd (Tryz.f29.body.getD .skip) [1, 0, 0]), (cd (Tryz.f29.body.getD .skip) [1, 0, 1]), (cd (Tryz.f29.body.getD .skip) [1, 1, 0]), (cd (Tryz.f29.body.getD .skip) [1, 1, 1])] (fun _ _ => False) (fun i => (fun _ _ => False)) (s29_R K)
theorem s29_p1_ok (K : Value → World → Prop) (s : Nat → Value) (w : World) (h : s29_p1 K (s 0) w) : Tr (s29_p1_den K s w) :=
  tr_simple (P := Tryz.prog) (codes := [(cd (Tryz.f29.body.getD .skip) [0]), (cd (Tryz.f29.body.getD .skip) [1, 0, 0]), (cd (Tryz.f29.body.getD .skip) [1, 0, 1]), (cd (Tryz.f29.body.getD .skip) [1, 1, 0]), (cd (Tryz.f29.body.getD .skip) [1, 1, 1])]) (N := (fun _ _ => False)) (N' := (fun _ _ => False)) (X := (fun i => (fun _ _ => False))) (X' := (fun i => (fun _ _ => False))) (R := s29_R K) (s := s) (w := w) (p := s29_p1 K (s 0) w) (q := s29_p1_den K s w) tr_id (fun i => tr_id) (by kernel_rfl) (by kernel_rfl) @h
/-- the call, from the text -/
theorem c29 (t0 : Value) {K : Value → World → Prop} {w : World} (h : s29_p1 K t0 w) : cl Tryz.prog 29 #[t0] K w :=
  calls_of_tr (c := (Tryz.f29.body.getD .skip)) (fn := Tryz.f29) (q := s29_p1_den K (st0 #[t0]) w) Tryz.func29 (by kernel_rfl) (by kernel_rfl) (Nat.le_of_ble_eq_true (by kernel_rfl)) (by kernel_rfl) (by kernel_rfl) (s29_p1_ok K (st0 #[t0]) w @h)

/-! ### function 57 : e2e.enginelaw.ask -/
def s57_R (K : Value → World → Prop) (s : Nat → Value) (w : World) : Prop := retv Tryz.prog s Tryz.f57.results.toList (fun vs => K (pack vs) w) w
def s57_p1 (K : Value → World → Prop) (t3 : Value) (w : World) : Prop :=
  K t3 w
def s57_p1_den (K : Value → World → Prop) : (Nat → Value) → World → Prop := denL Tryz.prog [(cd (Tryz.f57.body.getD .skip) [1, 1, 1, 0]), (cd (Tryz.f57.body.getD .skip) [1, 1, 1, 1])] (fun _ _ => False) (fun i => (fun _ _ => False)) (s57_R K)
theorem s57_p1_ok (K : Value → World → Prop) (s : Nat → Value) (w : World) (h : s57_p1 K (s 3) w) : Tr (s57_p1_den K s w) :=
  tr_simple (P := Tryz.prog) (codes := [(cd (Tryz.f57.body.getD .skip) [1, 1, 1, 0]), (cd (Tryz.f57.body.getD .skip) [1, 1, 1, 1])]) (N := (fun _ _ => False)) (N' := (fun _ _ => False)) (X := (fun i => (fun _ _ => False))) (X' := (fun i => (fun _ _ => False))) (R := s57_R K) (s := s) (w := w) (p := s57_p1 K (s 3) w) (q := s57_p1_den K s w) tr_id (fun i => tr_id) (by kernel_rfl) (by kernel_rfl) @h
def s57_p2 (K : Value → World → Prop) (t0 : Value) (w : World) : Prop :=
  nw 52 (t0).cells (fun t1 w =>
  ldn 8 t1 (fun t6 w =>
  cl Tryz.prog 140 #[t6] (fun t7 w =>
  exq t7 0 (fun t8 w =>
  exq t7 1 (fun t9 w =>
  un .not t9 (fun t11 w =>
  ifb t11
  (False)
  (s57_p1 K t8 w)) w) w) w) w) w) w
def s57_p2_den (K : Value → World → Prop) : (Nat → Value) → World → Prop := denL Tryz.prog [(cd (Tryz.f57.body.getD .skip) [0]), (cd (Tryz.f57.body.getD .skip) [1, 0]), (cd (Tryz.f57.body.getD .skip) [1, 1, 0, 0]), (cd (Tryz.f57.body.getD .skip) [1, 1, 0, 1])] (s57_p1_den K) (fun i => (fun _ _ => False)) (s57_R K)
theorem s57_p2_ok (K : Value → World → Prop) (s : Nat → Value) (w : World) (h : s57_p2 K (s 0) w) : Tr (s57_p2_den K s w) :=
  tr_simple (P := Tryz.prog) (codes := [(cd (Tryz.f57.body.getD .skip) [0]), (cd (Tryz.f57.body.getD .skip) [1, 0]), (cd (Tryz.f57.body.getD .skip) [1, 1, 0, 0]), (cd (Tryz.f57.body.getD .skip) [1, 1, 0, 1])]) (N := (fun s w => s57_p1 K (s 3) w)) (N' := (s57_p1_den K)) (X := (fun i => (fun _ _ => False))) (X' := (fun i => (fun _ _ => False))) (R := s57_R K) (s := s) (w := w) (p := s57_p2 K (s 0) w) (q := s57_p2_den K s w) (fun s w h => s57_p1_ok K s w @h) (fun i => tr_id) (by kernel_rfl) (by kernel_rfl) @h
/-- the call, from the text -/
theorem c57 (t0 : Value) {K : Value → World → Prop} {w : World} (h : s57_p2 K t0 w) : cl Tryz.prog 57 #[t0] K w :=
  calls_of_tr (c := (Tryz.f57.body.getD .skip)) (fn := Tryz.f57) (q := s57_p2_den K (st0 #[t0]) w) Tryz.func57 (by kernel_rfl) (by kernel_rfl) (Nat.le_of_ble_eq_true (by kernel_rfl)) (by kernel_rfl) (by kernel_rfl) (s57_p2_ok K (st0 #[t0]) w @h)

/-! ### function 82 : e2e.journalm.New -/
def s82_R (K : Value → World → Prop) (s : Nat → Value) (w : World) : Prop := retv Tryz.prog s Tryz.f82.results.toList (fun vs => K (pack vs) w) w
def s82_p1 (K : Value → World → Prop) (t0 : Value) (w : World) : Prop :=
  nw 27 (t0).cells (fun t1 w =>
  ldn 3 t1 (fun t3 w =>
  bdq [(.int .i64 0), (.int .i64 0), (.int .i64 0), (.bool false), (.slice none 0 0), (.slice none 0 0), (.int .i64 0), (.bool false), (.int .i64 0), (.int .i64 0)] [(some (0, 3), t3)] (fun t4 w =>
  nw 67 (t4).cells (fun t5 w =>
  K t5 w) w) w) w) w
def s82_p1_den (K : Value → World → Prop) : (Nat → Value) → World → Prop := denL Tryz.prog [(cd (Tryz.f82.body.getD .skip) [0]), (cd (Tryz.f82.body.getD .skip) [1, 0]), (cd (Tryz.f82.body.getD .skip) [1, 1])] (fun _ _ => False) (fun i => (fun _ _ => False)) (s82_R K)
theorem s82_p1_ok (K : Value → World → Prop) (s : Nat → Value) (w : World) (h : s82_p1 K (s 0) w) : Tr (s82_p1_den K s w) :=
  tr_simple (P := Tryz.prog) (codes := [(cd (Tryz.f82.body.getD .skip) [0]), (cd (Tryz.f82.body.getD .skip) [1, 0]), (cd (Tryz.f82.body.getD .skip) [1, 1])]) (N := (fun _ _ => False)) (N' := (fun _ _ => False)) (X := (fun i => (fun _ _ => False))) (X' := (fun i => (fun _ _ => False))) (R := s82_R K) (s := s) (w := w) (p := s82_p1 K (s 0) w) (q := s82_p1_den K s w) tr_id (fun i => tr_id) (by kernel_rfl) (by kernel_rfl) @h
/-- the call, from the text -/
theorem c82 (t0 : Value) {K : Value → World → Prop} {w : World} (h : s82_p1 K t0 w) : cl Tryz.prog 82 #[t0] K w :=
  calls_of_tr (c := (Tryz.f82.body.getD .skip)) (fn := Tryz.f82) (q := s82_p1_den K (st0 #[t0]) w) Tryz.func82 (by kernel_rfl) (by kernel_rfl) (Nat.le_of_ble_eq_true (by kernel_rfl)) (by kernel_rfl) (by kernel_rfl) (s82_p1_ok K (st0 #[t0]) w @h)

/-! ### function 126 : e2e.journalm.copyOf -/
def s126_R (K : Value → World → Prop) (s : Nat → Value) (w : World) : Prop := retv Tryz.prog s Tryz.f126.results.toList (fun vs => K (pack vs) w) w
def s126_p1 (K : Value → World → Prop) (t0 : Value) (w : World) : Prop :=
  bsq 5 [(.int .u8 0)] 0 [] (fun t3 w =>
  apq 5 [(.int .u8 0)] 1 t3 t0 (fun t5 w =>
  K t5 w) w) w
def s126_p1_den (K : Value → World → Prop) : (Nat → Value) → World → Prop := denL Tryz.prog [(cd (Tryz.f126.body.getD .skip) [0]), (cd (Tryz.f126.body.getD .skip) [1, 0]), (cd (Tryz.f126.body.getD .skip) [1, 1])] (fun _ _ => False) (fun i => (fun _ _ => False)) (s126_R K)
theorem s126_p1_ok (K : Value → World → Prop) (s : Nat → Value) (w : World) (h : s126_p1 K (s 0) w) : Tr (s126_p1_den K s w) :=
  tr_simple (P := Tryz.prog) (codes := [(cd (Tryz.f126.body.getD .skip) [0]), (cd (Tryz.f126.body.getD .skip) [1, 0]), (cd (Tryz.f126.body.getD .skip) [1, 1])]) (N := (fun _ _ => False)) (N' := (fun _ _ => False)) (X := (fun i => (fun _ _ => False))) (X' := (fun i => (fun _ _ => False))) (R := s126_R K) (s := s) (w := w) (p := s126_p1 K (s 0) w) (q := s126_p1_den K s w) tr_id (fun i => tr_id) (by kernel_rfl) (by kernel_rfl) @h
/-- the call, from the text -/
theorem c126 (t0 : Value) {K : Value → World → Prop} {w : World} (h : s126_p1 K t0 w) : cl Tryz.prog 126 #[t0] K w :=
  calls_of_tr (c := (Tryz.f126.body.getD .skip)) (fn := Tryz.f126) (q := s126_p1_den K (st0 #[t0]) w) Tryz.func126 (by kernel_rfl) (by kernel_rfl) (Nat.le_of_ble_eq_true (by kernel_rfl)) (by kernel_rfl) (by kernel_rfl) (s126_p1_ok K (st0 #[t0]) w @h)

/-! ### function 39 : (*e2e.journalm.Journal).Clone -/
def s39_R (K : Value → World → Prop) (s : Nat → Value) (w : World) : Prop := retv Tryz.prog s Tryz.f39.results.toList (fun vs => K (pack vs) w) w
def s39_p1 (K : Value → World → Prop) (t3 : Value) (w : World) : Prop :=
  K t3 w
def s39_p1_den (K : Value → World → Prop) : (Nat → Value) → World → Prop := denL Tryz.prog [(cd (Tryz.f39.body.getD .skip) [1, 1, 1, 1, 1, 0]), (cd (Tryz.f39.body.getD .skip) [1, 1, 1, 1, 1, 1])] (fun _ _ => False) (fun i => (fun _ _ => False)) (s39_R K)
theorem s39_p1_ok (K : Value → World → Prop) (s : Nat → Value) (w : World) (h : s39_p1 K (s 3) w) : Tr (s39_p1_den K s w) :=
  tr_simple (P := Tryz.prog) (codes := [(cd (Tryz.f39.body.getD .skip) [1, 1, 1, 1, 1, 0]), (cd (Tryz.f39.body.getD .skip) [1, 1, 1, 1, 1, 1])]) (N := (fun _ _ => False)) (N' := (fun _ _ => False)) (X := (fun i => (fun _ _ => False))) (X' := (fun i => (fun _ _ => False))) (R := s39_R K) (s := s) (w := w) (p := s39_p1 K (s 3) w) (q := s39_p1_den K s w) tr_id (fun i => tr_id) (by kernel_rfl) (by kernel_rfl) @h
def s39_p2 (K : Value → World → Prop) (B1 : List Value → World → Prop) (t3 t19 t20 t21 : Value) (w : World) : Prop :=
  boI .add t21 (.int .i64 1) (fun t32 w =>
  B1 [t3, t19, t20, t32] w) w
def s39_p2_den (K : Value → World → Prop) (M1 : (Nat → Value) → World → Prop) : (Nat → Value) → World → Prop := denL Tryz.prog [(cd (Tryz.f39.body.getD .skip) [1, 1, 1, 1, 0, 1, 0, 0, 1, 1, 1])] M1 (fun i => (bif Nat.beq i 0 then (s39_p1_den K) else (fun _ _ => False))) (s39_R K)
theorem s39_p2_ok (K : Value → World → Prop) (B1 : List Value → World → Prop) (s : Nat → Value) (w : World) (h : s39_p2 K B1 (s 3) (s 19) (s 20) (s 21) w) : Tr (s39_p2_den K (fun s w => B1 [s 3, s 19, s 20, s 21] w) s w) :=
  tr_simple (P := Tryz.prog) (codes := [(cd (Tryz.f39.body.getD .skip) [1, 1, 1, 1, 0, 1, 0, 0, 1, 1, 1])]) (N := (fun s w => B1 [s 3, s 19, s 20, s 21] w)) (N' := (fun s w => B1 [s 3, s 19, s 20, s 21] w)) (X := (fun i => (bif Nat.beq i 0 then (fun s w => s39_p1 K (s 3) w) else (fun _ _ => False)))) (X' := (fun i => (bif Nat.beq i 0 then (s39_p1_den K) else (fun _ _ => False)))) (R := s39_R K) (s := s) (w := w) (p := s39_p2 K B1 (s 3) (s 19) (s 20) (s 21) w) (q := s39_p2_den K (fun s w => B1 [s 3, s 19, s 20, s 21] w) s w) tr_id (fun i => (tr_bif (fun s w h => s39_p1_ok K s w @h) tr_id)) (by kernel_rfl) (by kernel_rfl) @h
def s39_p3_d (K : Value → World → Prop) (B1 : List Value → World → Prop) (t3 t5 t19 t20 t21 : Value) (w0 w : World) : Prop :=
  fd 5 t3 (fun t25 _ =>
  ld1 t25 (fun t26 _ =>
  fd 5 t3 (fun t31 _ =>
  cl Tryz.prog 126 #[t5] (fun t28 w =>
  Below w0.heap.size w0 w ∧
  bsq 37 [(.slice none 0 0)] 1 [(some (0, 1), t28)] (fun t29 w =>
  Below w0.heap.size w0 w ∧
  apq 37 [(.slice none 0 0)] 24 t26 t29 (fun t30 w =>
  st1 t31 t30 (fun w =>
  s39_p2 K B1 t3 t19 t20 t21 w) w) w) w) w) w0) w0) w0
def s39_p3 (K : Value → World → Prop) (B1 : List Value → World → Prop) (t3 t5 t19 t20 t21 : Value) (w : World) : Prop := s39_p3_d K B1 t3 t5 t19 t20 t21 (drw w) (drw w)
def s39_p3_den (K : Value → World → Prop) (M1 : (Nat → Value) → World → Prop) : (Nat → Value) → World → Prop := denL Tryz.prog [(cd (Tryz.f39.body.getD .skip) [1, 1, 1, 1, 0, 1, 0, 0, 1, 1, 0, 0, 1])] (s39_p2_den K M1) (fun i => (bif Nat.beq i 1 then (s39_p2_den K M1) else (bif Nat.beq i 0 then (s39_p1_den K) else (fun _ _ => False)))) (s39_R K)
theorem s39_p3_ok (K : Value → World → Prop) (B1 : List Value → World → Prop) (s : Nat → Value) (w : World) (h : s39_p3 K B1 (s 3) (s 5) (s 19) (s 20) (s 21) w) : Tr (s39_p3_den K (fun s w => B1 [s 3, s 19, s 20, s 21] w) s w) :=
  tr_draw (P := Tryz.prog) (ops := (ro (cd (Tryz.f39.body.getD .skip) [1, 1, 1, 1, 0, 1, 0, 0, 1, 1, 0, 0, 1]))) (ms := [0, 1, 0, 4, 12, 31, 63, 127]) (cs := [0, 1, 2, 6]) (N := (fun s w => s39_p2 K B1 (s 3) (s 19) (s 20) (s 21) w)) (N' := (s39_p2_den K (fun s w => B1 [s 3, s 19, s 20, s 21] w))) (s := s) (w := w) (p := s39_p3 K B1 (s 3) (s 5) (s 19) (s 20) (s 21) w) (q := s39_p3_den K (fun s w => B1 [s 3, s 19, s 20, s 21] w) s w) (by kernel_rfl) (by kernel_rfl) (fun s w h => s39_p2_ok K B1 s w @h) (by kernel_rfl) (by kernel_rfl) @h
def s39_p4 (K : Value → World → Prop) (B1 : List Value → World → Prop) (t3 t19 t20 t21 : Value) (w : World) : Prop :=
  ixs 1 t19 t21 (fun t23 w =>
  ld1 t23 (fun t24 w =>
  s39_p3 K B1 t3 t24 t19 t20 t21 w) w) w
def s39_p4_den (K : Value → World → Prop) (M1 : (Nat → Value) → World → Prop) : (Nat → Value) → World → Prop := denL Tryz.prog [(cd (Tryz.f39.body.getD .skip) [1, 1, 1, 1, 0, 1, 0, 0, 1, 1, 0, 0, 0])] (s39_p3_den K M1) (fun i => (bif Nat.beq i 1 then (s39_p2_den K M1) else (bif Nat.beq i 0 then (s39_p1_den K) else (fun _ _ => False)))) (s39_R K)
theorem s39_p4_ok (K : Value → World → Prop) (B1 : List Value → World → Prop) (s : Nat → Value) (w : World) (h : s39_p4 K B1 (s 3) (s 19) (s 20) (s 21) w) : Tr (s39_p4_den K (fun s w => B1 [s 3, s 19, s 20, s 21] w) s w) :=
  tr_simple (P := Tryz.prog) (codes := [(cd (Tryz.f39.body.getD .skip) [1, 1, 1, 1, 0, 1, 0, 0, 1, 1, 0, 0, 0])]) (N := (fun s w => s39_p3 K B1 (s 3) (s 5) (s 19) (s 20) (s 21) w)) (N' := (s39_p3_den K (fun s w => B1 [s 3, s 19, s 20, s 21] w))) (X := (fun i => (bif Nat.beq i 1 then (fun s w => s39_p2 K B1 (s 3) (s 19) (s 20) (s 21) w) else (bif Nat.beq i 0 then (fun s w => s39_p1 K (s 3) w) else (fun _ _ => False))))) (X' := (fun i => (bif Nat.beq i 1 then (s39_p2_den K (fun s w => B1 [s 3, s 19, s 20, s 21] w)) else (bif Nat.beq i 0 then (s39_p1_den K) else (fun _ _ => False))))) (R := s39_R K) (s := s) (w := w) (p := s39_p4 K B1 (s 3) (s 19) (s 20) (s 21) w) (q := s39_p4_den K (fun s w => B1 [s 3, s 19, s 20, s 21] w) s w) (fun s w h => s39_p3_ok K B1 s w @h) (fun i => (tr_bif (fun s w h => s39_p2_ok K B1 s w @h) (tr_bif (fun s w h => s39_p1_ok K s w @h) tr_id))) (by kernel_rfl) (by kernel_rfl) @h
def s39_p5 (K : Value → World → Prop) (B1 : List Value → World → Prop) (t3 t19 t20 t21 : Value) (w : World) : Prop :=
  boI .lss t21 t20 (fun t22 w =>
  ifb t22
  (s39_p4 K B1 t3 t19 t20 t21 w)
  (s39_p1 K t3 w)) w
def s39_p5_den (K : Value → World → Prop) (M1 : (Nat → Value) → World → Prop) : (Nat → Value) → World → Prop := denL Tryz.prog [(cd (Tryz.f39.body.getD .skip) [1, 1, 1, 1, 0, 1, 0, 0, 0]), (cd (Tryz.f39.body.getD .skip) [1, 1, 1, 1, 0, 1, 0, 0, 1, 0])] (s39_p4_den K M1) (fun i => (bif Nat.beq i 0 then (s39_p1_den K) else (fun _ _ => False))) (s39_R K)
theorem s39_p5_ok (K : Value → World → Prop) (B1 : List Value → World → Prop) (s : Nat → Value) (w : World) (h : s39_p5 K B1 (s 3) (s 19) (s 20) (s 21) w) : Tr (s39_p5_den K (fun s w => B1 [s 3, s 19, s 20, s 21] w) s w) :=
  tr_simple (P := Tryz.prog) (codes := [(cd (Tryz.f39.body.getD .skip) [1, 1, 1, 1, 0, 1, 0, 0, 0]), (cd (Tryz.f39.body.getD .skip) [1, 1, 1, 1, 0, 1, 0, 0, 1, 0])]) (N := (fun s w => s39_p4 K B1 (s 3) (s 19) (s 20) (s 21) w)) (N' := (s39_p4_den K (fun s w => B1 [s 3, s 19, s 20, s 21] w))) (X := (fun i => (bif Nat.beq i 0 then (fun s w => s39_p1 K (s 3) w) else (fun _ _ => False)))) (X' := (fun i => (bif Nat.beq i 0 then (s39_p1_den K) else (fun _ _ => False)))) (R := s39_R K) (s := s) (w := w) (p := s39_p5 K B1 (s 3) (s 19) (s 20) (s 21) w) (q := s39_p5_den K (fun s w => B1 [s 3, s 19, s 20, s 21] w) s w) (fun s w h => s39_p4_ok K B1 s w @h) (fun i => (tr_bif (fun s w h => s39_p1_ok K s w @h) tr_id)) (by kernel_rfl) (by kernel_rfl) @h
def s39_p6_F (K : Value → World → Prop) (B1 : List Value → World → Prop) (l : List Value) (w : World) : Prop :=
  match l with
  | [t3, t19, t20, t21] => s39_p5 K B1 t3 t19 t20 t21 w
  | _ => False
theorem s39_p6_Fe {K : Value → World → Prop} {B1 : List Value → World → Prop} {t3 t19 t20 t21 : Value} {w : World} : s39_p6_F K B1 [t3, t19, t20, t21] w = s39_p5 K B1 t3 t19 t20 t21 w := by kernel_rfl
def s39_p6 (K : Value → World → Prop) (t3 t19 t20 t21 : Value) (w : World) : Prop :=
  LoopL (s39_p6_F K) [t3, t19, t20, t21] w
def s39_p6_den (K : Value → World → Prop) : (Nat → Value) → World → Prop := fun s w => LoopP (fun M1 s w => s39_p5_den K M1 s w) s w
theorem s39_p6_ok (K : Value → World → Prop) (s : Nat → Value) (w : World) (h : s39_p6 K (s 3) (s 19) (s 20) (s 21) w) : Tr (s39_p6_den K s w) :=
  tr_loop (G := fun N' s w => s39_p5_den K N' s w) (F := s39_p6_F K) (sel := fun s => [s 3, s 19, s 20, s 21]) (s := s) (w := w) (p := s39_p6 K (s 3) (s 19) (s 20) (s 21) w) (q := s39_p6_den K s w) (fun B s w h => s39_p5_ok K B s w @h) (by kernel_rfl) (by kernel_rfl) @h
def s39_p7 (K : Value → World → Prop) (t0 : Value) (w : World) : Prop :=
  nck t0 (fun t7 w =>
  ldn 10 t7 (fun t8 w =>
  nw 67 #[(.int .i64 0), (.int .i64 0), (.int .i64 0), (.bool false), (.slice none 0 0), (.slice none 0 0), (.int .i64 0), (.bool false), (.int .i64 0), (.int .i64 0)] (fun t3 w =>
  stn 10 t3 t8 (fun w =>
  nck t0 (fun t10 w =>
  fd 4 t10 (fun t11 w =>
  ld1 t11 (fun t12 w =>
  cl Tryz.prog 126 #[t12] (fun t13 w =>
  fd 4 t3 (fun t14 w =>
  st1 t14 t13 (fun w =>
  fd 5 t3 (fun t15 w =>
  st1 t15 (.slice none 0 0) (fun w =>
  nck t0 (fun t17 w =>
  fd 5 t17 (fun t18 w =>
  ld1 t18 (fun t19 w =>
  lnS t19 (fun t20 w =>
  s39_p6 K t3 t19 t20 (.int .i64 0) w) w) w) w) w) w) w) w) w) w) w) w) w) w) w) w) w
def s39_p7_den (K : Value → World → Prop) : (Nat → Value) → World → Prop := denL Tryz.prog [(cd (Tryz.f39.body.getD .skip) [0]), (cd (Tryz.f39.body.getD .skip) [1, 0]), (cd (Tryz.f39.body.getD .skip) [1, 1, 0]), (cd (Tryz.f39.body.getD .skip) [1, 1, 1, 0]), (cd (Tryz.f39.body.getD .skip) [1, 1, 1, 1, 0, 0])] (s39_p6_den K) (fun i => (fun _ _ => False)) (s39_R K)
theorem s39_p7_ok (K : Value → World → Prop) (s : Nat → Value) (w : World) (h : s39_p7 K (s 0) w) : Tr (s39_p7_den K s w) :=
  tr_simple (P := Tryz.prog) (codes := [(cd (Tryz.f39.body.getD .skip) [0]), (cd (Tryz.f39.body.getD .skip) [1, 0]), (cd (Tryz.f39.body.getD .skip) [1, 1, 0]), (cd (Tryz.f39.body.getD .skip) [1, 1, 1, 0]), (cd (Tryz.f39.body.getD .skip) [1, 1, 1, 1, 0, 0])]) (N := (fun s w => s39_p6 K (s 3) (s 19) (s 20) (s 21) w)) (N' := (s39_p6_den K)) (X := (fun i => (fun _ _ => False))) (X' := (fun i => (fun _ _ => False))) (R := s39_R K) (s := s) (w := w) (p := s39_p7 K (s 0) w) (q := s39_p7_den K s w) (fun s w h => s39_p6_ok K s w @h) (fun i => tr_id) (by kernel_rfl) (by kernel_rfl) @h
/-- the call, from the text -/
theorem c39 (t0 : Value) {K : Value → World → Prop} {w : World} (h : s39_p7 K t0 w) : cl Tryz.prog 39 #[t0] K w :=
  calls_of_tr (c := (Tryz.f39.body.getD .skip)) (fn := Tryz.f39) (q := s39_p7_den K (st0 #[t0]) w) Tryz.func39 (by kernel_rfl) (by kernel_rfl) (Nat.le_of_ble_eq_true (by kernel_rfl)) (by kernel_rfl) (by kernel_rfl) (s39_p7_ok K (st0 #[t0]) w @h)

/-! ### function 48 : (*e2e.journalm.Journal).Room -/
def s48_R (K : Value → World → Prop) (s : Nat → Value) (w : World) : Prop := retv Tryz.prog s Tryz.f48.results.toList (fun vs => K (pack vs) w) w
def s48_p1 (K : Value → World → Prop) (t3 : Value) (w : World) : Prop :=
  K t3 w
def s48_p1_den (K : Value → World → Prop) : (Nat → Value) → World → Prop := denL Tryz.prog [(cd (Tryz.f48.body.getD .skip) [1, 1, 1, 1, 1, 0]), (cd (Tryz.f48.body.getD .skip) [1, 1, 1, 1, 1, 1])] (fun _ _ => False) (fun i => (fun _ _ => False)) (s48_R K)
theorem s48_p1_ok (K : Value → World → Prop) (s : Nat → Value) (w : World) (h : s48_p1 K (s 3) w) : Tr (s48_p1_den K s w) :=
  tr_simple (P := Tryz.prog) (codes := [(cd (Tryz.f48.body.getD .skip) [1, 1, 1, 1, 1, 0]), (cd (Tryz.f48.body.getD .skip) [1, 1, 1, 1, 1, 1])]) (N := (fun _ _ => False)) (N' := (fun _ _ => False)) (X := (fun i => (fun _ _ => False))) (X' := (fun i => (fun _ _ => False))) (R := s48_R K) (s := s) (w := w) (p := s48_p1 K (s 3) w) (q := s48_p1_den K s w) tr_id (fun i => tr_id) (by kernel_rfl) (by kernel_rfl) @h
def s48_p2 (K : Value → World → Prop) (t3 : Value) (w : World) : Prop :=
  boI .lss t3 (.int .i64 0) (fun t40 w =>
  ifb t40
  (s48_p1 K (.int .i64 0) w)
  (s48_p1 K t3 w)) w
def s48_p2_den (K : Value → World → Prop) : (Nat → Value) → World → Prop := denL Tryz.prog [(cd (Tryz.f48.body.getD .skip) [1, 1, 1, 1, 0, 0]), (cd (Tryz.f48.body.getD .skip) [1, 1, 1, 1, 0, 1])] (s48_p1_den K) (fun i => (fun _ _ => False)) (s48_R K)
theorem s48_p2_ok (K : Value → World → Prop) (s : Nat → Value) (w : World) (h : s48_p2 K (s 3) w) : Tr (s48_p2_den K s w) :=
  tr_simple (P := Tryz.prog) (codes := [(cd (Tryz.f48.body.getD .skip) [1, 1, 1, 1, 0, 0]), (cd (Tryz.f48.body.getD .skip) [1, 1, 1, 1, 0, 1])]) (N := (fun s w => s48_p1 K (s 3) w)) (N' := (s48_p1_den K)) (X := (fun i => (fun _ _ => False))) (X' := (fun i => (fun _ _ => False))) (R := s48_R K) (s := s) (w := w) (p := s48_p2 K (s 3) w) (q := s48_p2_den K s w) (fun s w h => s48_p1_ok K s w @h) (fun i => tr_id) (by kernel_rfl) (by kernel_rfl) @h
def s48_p3 (K : Value → World → Prop) (t0 t3 : Value) (w : World) : Prop :=
  nck t0 (fun t29 w =>
  fd 0 t29 (fun t30 w =>
  fd 0 t30 (fun t31 w =>
  ld1 t31 (fun t32 w =>
  boI .gtr t3 t32 (fun t33 w =>
  ifb t33
  (nck t0 (fun t35 w =>
  fd 0 t35 (fun t36 w =>
  fd 0 t36 (fun t37 w =>
  ld1 t37 (fun t38 w =>
  s48_p2 K t38 w) w) w) w) w)
  (s48_p2 K t3 w)) w) w) w) w) w
def s48_p3_den (K : Value → World → Prop) : (Nat → Value) → World → Prop := denL Tryz.prog [(cd (Tryz.f48.body.getD .skip) [1, 1, 1, 0, 0]), (cd (Tryz.f48.body.getD .skip) [1, 1, 1, 0, 1])] (s48_p2_den K) (fun i => (fun _ _ => False)) (s48_R K)
theorem s48_p3_ok (K : Value → World → Prop) (s : Nat → Value) (w : World) (h : s48_p3 K (s 0) (s 3) w) : Tr (s48_p3_den K s w) :=
  tr_simple (P := Tryz.prog) (codes := [(cd (Tryz.f48.body.getD .skip) [1, 1, 1, 0, 0]), (cd (Tryz.f48.body.getD .skip) [1, 1, 1, 0, 1])]) (N := (fun s w => s48_p2 K (s 3) w)) (N' := (s48_p2_den K)) (X := (fun i => (fun _ _ => False))) (X' := (fun i => (fun _ _ => False))) (R := s48_R K) (s := s) (w := w) (p := s48_p3 K (s 0) (s 3) w) (q := s48_p3_den K s w) (fun s w h => s48_p2_ok K s w @h) (fun i => tr_id) (by kernel_rfl) (by kernel_rfl) @h
def s48_p4 (K : Value → World → Prop) (B1 : List Value → World → Prop) (t0 t3 t15 t16 t17 : Value) (w : World) : Prop :=
  boI .lss t17 t16 (fun t18 w =>
  ifb t18
  (ixs 1 t15 t17 (fun t19 w =>
  ld1 t19 (fun t20 w =>
  lnS t20 (fun t23 w =>
  boI .add t23 (.int .i64 6) (fun t24 w =>
  boI .sub t3 t24 (fun t25 w =>
  boI .add t17 (.int .i64 1) (fun t26 w =>
  B1 [t0, t25, t15, t16, t26] w) w) w) w) w) w) w)
  (s48_p3 K t0 t3 w)) w
def s48_p4_den (K : Value → World → Prop) (M1 : (Nat → Value) → World → Prop) : (Nat → Value) → World → Prop := denL Tryz.prog [(cd (Tryz.f48.body.getD .skip) [1, 1, 0, 1, 0, 0, 0]), (cd (Tryz.f48.body.getD .skip) [1, 1, 0, 1, 0, 0, 1, 0]), (cd (Tryz.f48.body.getD .skip) [1, 1, 0, 1, 0, 0, 1, 1, 0]), (cd (Tryz.f48.body.getD .skip) [1, 1, 0, 1, 0, 0, 1, 1, 1])] M1 (fun i => (bif Nat.beq i 0 then (s48_p3_den K) else (fun _ _ => False))) (s48_R K)
theorem s48_p4_ok (K : Value → World → Prop) (B1 : List Value → World → Prop) (s : Nat → Value) (w : World) (h : s48_p4 K B1 (s 0) (s 3) (s 15) (s 16) (s 17) w) : Tr (s48_p4_den K (fun s w => B1 [s 0, s 3, s 15, s 16, s 17] w) s w) :=
  tr_simple (P := Tryz.prog) (codes := [(cd (Tryz.f48.body.getD .skip) [1, 1, 0, 1, 0, 0, 0]), (cd (Tryz.f48.body.getD .skip) [1, 1, 0, 1, 0, 0, 1, 0]), (cd (Tryz.f48.body.getD .skip) [1, 1, 0, 1, 0, 0, 1, 1, 0]), (cd (Tryz.f48.body.getD .skip) [1, 1, 0, 1, 0, 0, 1, 1, 1])]) (N := (fun s w => B1 [s 0, s 3, s 15, s 16, s 17] w)) (N' := (fun s w => B1 [s 0, s 3, s 15, s 16, s 17] w)) (X := (fun i => (bif Nat.beq i 0 then (fun s w => s48_p3 K (s 0) (s 3) w) else (fun _ _ => False)))) (X' := (fun i => (bif Nat.beq i 0 then (s48_p3_den K) else (fun _ _ => False)))) (R := s48_R K) (s := s) (w := w) (p := s48_p4 K B1 (s 0) (s 3) (s 15) (s 16) (s 17) w) (q := s48_p4_den K (fun s w => B1 [s 0, s 3, s 15, s 16, s 17] w) s w) tr_id (fun i => (tr_bif (fun s w h => s48_p3_ok K s w @h) tr_id)) (by kernel_rfl) (by kernel_rfl) @h
def s48_p5_F (K : Value → World → Prop) (B1 : List Value → World → Prop) (l : List Value) (w : World) : Prop :=
  match l with
  | [t0, t3, t15, t16, t17] => s48_p4 K B1 t0 t3 t15 t16 t17 w
  | _ => False
theorem s48_p5_Fe {K : Value → World → Prop} {B1 : List Value → World → Prop} {t0 t3 t15 t16 t17 : Value} {w : World} : s48_p5_F K B1 [t0, t3, t15, t16, t17] w = s48_p4 K B1 t0 t3 t15 t16 t17 w := by kernel_rfl
def s48_p5 (K : Value → World → Prop) (t0 t3 t15 t16 t17 : Value) (w : World) : Prop :=
  LoopL (s48_p5_F K) [t0, t3, t15, t16, t17] w
def s48_p5_den (K : Value → World → Prop) : (Nat → Value) → World → Prop := fun s w => LoopP (fun M1 s w => s48_p4_den K M1 s w) s w
theorem s48_p5_ok (K : Value → World → Prop) (s : Nat → Value) (w : World) (h : s48_p5 K (s 0) (s 3) (s 15) (s 16) (s 17) w) : Tr (s48_p5_den K s w) :=
  tr_loop (G := fun N' s w => s48_p4_den K N' s w) (F := s48_p5_F K) (sel := fun s => [s 0, s 3, s 15, s 16, s 17]) (s := s) (w := w) (p := s48_p5 K (s 0) (s 3) (s 15) (s 16) (s 17) w) (q := s48_p5_den K s w) (fun B s w h => s48_p4_ok K B s w @h) (by kernel_rfl) (by kernel_rfl) @h
def s48_p6 (K : Value → World → Prop) (t0 : Value) (w : World) : Prop :=
  nck t0 (fun t7 w =>
  fd 0 t7 (fun t8 w =>
  fd 1 t8 (fun t9 w =>
  ld1 t9 (fun t10 w =>
  boI .sub t10 (.int .i64 6) (fun t11 w =>
  nck t0 (fun t13 w =>
  fd 5 t13 (fun t14 w =>
  ld1 t14 (fun t15 w =>
  lnS t15 (fun t16 w =>
  s48_p5 K t0 t11 t15 t16 (.int .i64 0) w) w) w) w) w) w) w) w) w) w
def s48_p6_den (K : Value → World → Prop) : (Nat → Value) → World → Prop := denL Tryz.prog [(cd (Tryz.f48.body.getD .skip) [0]), (cd (Tryz.f48.body.getD .skip) [1, 0]), (cd (Tryz.f48.body.getD .skip) [1, 1, 0, 0])] (s48_p5_den K) (fun i => (fun _ _ => False)) (s48_R K)
theorem s48_p6_ok (K : Value → World → Prop) (s : Nat → Value) (w : World) (h : s48_p6 K (s 0) w) : Tr (s48_p6_den K s w) :=
  tr_simple (P := Tryz.prog) (codes := [(cd (Tryz.f48.body.getD .skip) [0]), (cd (Tryz.f48.body.getD .skip) [1, 0]), (cd (Tryz.f48.body.getD .skip) [1, 1, 0, 0])]) (N := (fun s w => s48_p5 K (s 0) (s 3) (s 15) (s 16) (s 17) w)) (N' := (s48_p5_den K)) (X := (fun i => (fun _ _ => False))) (X' := (fun i => (fun _ _ => False))) (R := s48_R K) (s := s) (w := w) (p := s48_p6 K (s 0) w) (q := s48_p6_den K s w) (fun s w h => s48_p5_ok K s w @h) (fun i => tr_id) (by kernel_rfl) (by kernel_rfl) @h
/-- the call, from the text -/
theorem c48 (t0 : Value) {K : Value → World → Prop} {w : World} (h : s48_p6 K t0 w) : cl Tryz.prog 48 #[t0] K w :=
  calls_of_tr (c := (Tryz.f48.body.getD .skip)) (fn := Tryz.f48) (q := s48_p6_den K (st0 #[t0]) w) Tryz.func48 (by kernel_rfl) (by kernel_rfl) (Nat.le_of_ble_eq_true (by kernel_rfl)) (by kernel_rfl) (by kernel_rfl) (s48_p6_ok K (st0 #[t0]) w @h)

/-! ### function 168 : (*e2e.journalm.Journal).due -/
def s168_R (K : Value → World → Prop) (s : Nat → Value) (w : World) : Prop := retv Tryz.prog s Tryz.f168.results.toList (fun vs => K (pack vs) w) w
def s168_p1 (K : Value → World → Prop) (t0 : Value) (w : World) : Prop :=
  nck t0 (fun t4 w =>
  fd 8 t4 (fun t5 w =>
  ld1 t5 (fun t6 w =>
  boI .eql t6 (.int .i64 0) (fun t7 w =>
  ifb t7
  (K (.bool false) w)
  (nck t0 (fun t9 w =>
  fd 8 t9 (fun t10 w =>
  ld1 t10 (fun t11 w =>
  boI .sub t11 (.int .i64 1) (fun t12 w =>
  nck t0 (fun t13 w =>
  fd 8 t13 (fun t14 w =>
  st1 t14 t12 (fun w =>
  nck t0 (fun t16 w =>
  fd 8 t16 (fun t17 w =>
  ld1 t17 (fun t18 w =>
  boI .eql t18 (.int .i64 0) (fun t19 w =>
  K t19 w) w) w) w) w) w) w) w) w) w) w) w)) w) w) w) w
def s168_p1_den (K : Value → World → Prop) : (Nat → Value) → World → Prop := denL Tryz.prog [(cd (Tryz.f168.body.getD .skip) [0]), (cd (Tryz.f168.body.getD .skip) [1, 0, 0]), (cd (Tryz.f168.body.getD .skip) [1, 0, 1]), (cd (Tryz.f168.body.getD .skip) [1, 1, 0]), (cd (Tryz.f168.body.getD .skip) [1, 1, 1, 0]), (cd (Tryz.f168.body.getD .skip) [1, 1, 1, 1])] (fun _ _ => False) (fun i => (fun _ _ => False)) (s168_R K)
theorem s168_p1_ok (K : Value → World → Prop) (s : Nat → Value) (w : World) (h : s168_p1 K (s 0) w) : Tr (s168_p1_den K s w) :=
  tr_simple (P := Tryz.prog) (codes := [(cd (Tryz.f168.body.getD .skip) [0]), (cd (Tryz.f168.body.getD .skip) [1, 0, 0]), (cd (Tryz.f168.body.getD .skip) [1, 0, 1]), (cd (Tryz.f168.body.getD .skip) [1, 1, 0]), (cd (Tryz.f168.body.getD .skip) [1, 1, 1, 0]), (cd (Tryz.f168.body.getD .skip) [1, 1, 1, 1])]) (N := (fun _ _ => False)) (N' := (fun _ _ => False)) (X := (fun i => (fun _ _ => False))) (X' := (fun i => (fun _ _ => False))) (R := s168_R K) (s := s) (w := w) (p := s168_p1 K (s 0) w) (q := s168_p1_den K s w) tr_id (fun i => tr_id) (by kernel_rfl) (by kernel_rfl) @h
/-- the call, from the text -/
theorem c168 (t0 : Value) {K : Value → World → Prop} {w : World} (h : s168_p1 K t0 w) : cl Tryz.prog 168 #[t0] K w :=
  calls_of_tr (c := (Tryz.f168.body.getD .skip)) (fn := Tryz.f168) (q := s168_p1_den K (st0 #[t0]) w) Tryz.func168 (by kernel_rfl) (by kernel_rfl) (Nat.le_of_ble_eq_true (by kernel_rfl)) (by kernel_rfl) (by kernel_rfl) (s168_p1_ok K (st0 #[t0]) w @h)

/-! ### function 109 : (*e2e.journalm.Journal).Fail -/
def s109_R (K : Value → World → Prop) (s : Nat → Value) (w : World) : Prop := retv Tryz.prog s Tryz.f109.results.toList (fun vs => K (pack vs) w) w
def s109_p1 (K : Value → World → Prop) (t0 : Value) (w : World) : Prop :=
  nck t0 (fun t44 w =>
  fd 5 t44 (fun t45 w =>
  ld1 t45 (fun t46 w =>
  lnS t46 (fun t47 w =>
  nck t0 (fun t48 w =>
  fd 6 t48 (fun t49 w =>
  st1 t49 t47 (fun w =>
  nck t0 (fun t51 w =>
  fd 7 t51 (fun t52 w =>
  st1 t52 (.bool true) (fun w =>
  nck t0 (fun t54 w =>
  fd 8 t54 (fun t55 w =>
  st1 t55 (.int .i64 0) (fun w =>
  K (.tuple #[]) w) w) w) w) w) w) w) w) w) w) w) w) w) w
def s109_p1_den (K : Value → World → Prop) : (Nat → Value) → World → Prop := denL Tryz.prog [(cd (Tryz.f109.body.getD .skip) [1, 1, 1, 0]), (cd (Tryz.f109.body.getD .skip) [1, 1, 1, 1, 0]), (cd (Tryz.f109.body.getD .skip) [1, 1, 1, 1, 1])] (s109_R K) (fun i => (fun _ _ => False)) (s109_R K)
theorem s109_p1_ok (K : Value → World → Prop) (s : Nat → Value) (w : World) (h : s109_p1 K (s 0) w) : Tr (s109_p1_den K s w) :=
  tr_simple (P := Tryz.prog) (codes := [(cd (Tryz.f109.body.getD .skip) [1, 1, 1, 0]), (cd (Tryz.f109.body.getD .skip) [1, 1, 1, 1, 0]), (cd (Tryz.f109.body.getD .skip) [1, 1, 1, 1, 1])]) (N := (s109_R K)) (N' := (s109_R K)) (X := (fun i => (fun _ _ => False))) (X' := (fun i => (fun _ _ => False))) (R := s109_R K) (s := s) (w := w) (p := s109_p1 K (s 0) w) (q := s109_p1_den K s w) tr_id (fun i => tr_id) (by kernel_rfl) (by kernel_rfl) @h
def s109_p2_d (K : Value → World → Prop) (t0 t1 : Value) (w0 w : World) : Prop :=
  nck t0 (fun t30 _ =>
  fd 5 t30 (fun t31 _ =>
  ld1 t31 (fun t32 _ =>
  nck t0 (fun t34 _ =>
  fd 6 t34 (fun t35 _ =>
  ld1 t35 (fun t36 _ =>
  boI .add t36 t1 (fun t38 _ =>
  sls 1 t32 none (some t38) (fun t39 _ =>
  nck t0 (fun t40 _ =>
  fd 5 t40 (fun t41 _ =>
  st1 t41 t39 (fun w =>
  s109_p1 K t0 w) w) w0) w0) w0) w0) w0) w0) w0) w0) w0) w0
def s109_p2 (K : Value → World → Prop) (t0 t1 : Value) (w : World) : Prop := s109_p2_d K t0 t1 (drw w) (drw w)
def s109_p2_den (K : Value → World → Prop) : (Nat → Value) → World → Prop := denL Tryz.prog [(cd (Tryz.f109.body.getD .skip) [1, 1, 0])] (s109_p1_den K) (fun i => (fun _ _ => False)) (s109_R K)
theorem s109_p2_ok (K : Value → World → Prop) (s : Nat → Value) (w : World) (h : s109_p2 K (s 0) (s 1) w) : Tr (s109_p2_den K s w) :=
  tr_draw (P := Tryz.prog) (ops := (ro (cd (Tryz.f109.body.getD .skip) [1, 1, 0]))) (ms := [0, 0, 2, 6, 14, 0, 32, 96, 224, 0, 992, 2046, 4095, 8191, 16383]) (cs := [0, 1, 2, 3, 4, 5, 6, 7, 8, 9, 10, 11, 12, 13]) (N := (fun s w => s109_p1 K (s 0) w)) (N' := (s109_p1_den K)) (s := s) (w := w) (p := s109_p2 K (s 0) (s 1) w) (q := s109_p2_den K s w) (by kernel_rfl) (by kernel_rfl) (fun s w h => s109_p1_ok K s w @h) (by kernel_rfl) (by kernel_rfl) @h
def s109_p3_d (K : Value → World → Prop) (t0 : Value) (w0 w : World) : Prop :=
  nck t0 (fun t19 _ =>
  fd 5 t19 (fun t20 _ =>
  ld1 t20 (fun t21 _ =>
  lnS t21 (fun t22 _ =>
  nck t0 (fun t24 _ =>
  fd 6 t24 (fun t25 _ =>
  ld1 t25 (fun t26 _ =>
  boI .sub t22 t26 (fun t27 _ =>
  s109_p2 K t0 t27 w) w0) w0) w0) w0) w0) w0) w0) w0
def s109_p3 (K : Value → World → Prop) (t0 : Value) (w : World) : Prop := s109_p3_d K t0 (drw w) (drw w)
def s109_p3_den (K : Value → World → Prop) : (Nat → Value) → World → Prop := denL Tryz.prog [(cd (Tryz.f109.body.getD .skip) [1, 0, 1, 0])] (s109_p2_den K) (fun i => (fun _ _ => False)) (s109_R K)
theorem s109_p3_ok (K : Value → World → Prop) (s : Nat → Value) (w : World) (h : s109_p3 K (s 0) w) : Tr (s109_p3_den K s w) :=
  tr_draw (P := Tryz.prog) (ops := (ro (cd (Tryz.f109.body.getD .skip) [1, 0, 1, 0]))) (ms := [0, 1, 3, 7, 15, 0, 32, 96, 224, 511, 1023]) (cs := [0, 1, 2, 3, 4, 5, 6, 7, 8, 9, 10]) (N := (fun s w => s109_p2 K (s 0) (s 1) w)) (N' := (s109_p2_den K)) (s := s) (w := w) (p := s109_p3 K (s 0) w) (q := s109_p3_den K s w) (by kernel_rfl) (by kernel_rfl) (fun s w h => s109_p2_ok K s w @h) (by kernel_rfl) (by kernel_rfl) @h
def s109_p4 (K : Value → World → Prop) (t0 t1 t17 : Value) (w : World) : Prop :=
  ifb t17
  (s109_p3 K t0 w)
  (s109_p2 K t0 t1 w)
def s109_p4_den (K : Value → World → Prop) : (Nat → Value) → World → Prop := fun s w => ifb (ev s (.tmp 17)) ((s109_p3_den K) s w) ((s109_p2_den K) s w)
theorem s109_p4_ok (K : Value → World → Prop) (s : Nat → Value) (w : World) (h : s109_p4 K (s 0) (s 1) (s 17) w) : Tr (s109_p4_den K s w) :=
  tr_cond (v := ev s (.tmp 17)) (a := (fun s w => s109_p3 K (s 0) w) s w) (a' := (s109_p3_den K) s w) (b := (fun s w => s109_p2 K (s 0) (s 1) w) s w) (b' := (s109_p2_den K) s w) (p := s109_p4 K (s 0) (s 1) (s 17) w) (q := s109_p4_den K s w) ((fun s w h => s109_p3_ok K s w @h) s w) ((fun s w h => s109_p2_ok K s w @h) s w) (by kernel_rfl) (by kernel_rfl) @h
def s109_p5_d (K : Value → World → Prop) (t0 t1 : Value) (w0 w : World) : Prop :=
  nck t0 (fun t8 _ =>
  fd 5 t8 (fun t9 _ =>
  ld1 t9 (fun t10 _ =>
  lnS t10 (fun t11 _ =>
  nck t0 (fun t13 _ =>
  fd 6 t13 (fun t14 _ =>
  ld1 t14 (fun t15 _ =>
  boI .sub t11 t15 (fun t16 _ =>
  boI .gtr t1 t16 (fun t17 _ =>
  s109_p4 K t0 t1 t17 w) w0) w0) w0) w0) w0) w0) w0) w0) w0
def s109_p5 (K : Value → World → Prop) (t0 t1 : Value) (w : World) : Prop := s109_p5_d K t0 t1 (drw w) (drw w)
def s109_p5_den (K : Value → World → Prop) : (Nat → Value) → World → Prop := denL Tryz.prog [(cd (Tryz.f109.body.getD .skip) [1, 0, 0])] (s109_p4_den K) (fun i => (fun _ _ => False)) (s109_R K)
theorem s109_p5_ok (K : Value → World → Prop) (s : Nat → Value) (w : World) (h : s109_p5 K (s 0) (s 1) w) : Tr (s109_p5_den K s w) :=
  tr_draw (P := Tryz.prog) (ops := (ro (cd (Tryz.f109.body.getD .skip) [1, 0, 0]))) (ms := [0, 0, 2, 6, 14, 30, 0, 64, 192, 448, 1022, 2047]) (cs := [0, 1, 2, 3, 4, 5, 6, 7, 8, 9, 10, 11]) (N := (fun s w => s109_p4 K (s 0) (s 1) (s 17) w)) (N' := (s109_p4_den K)) (s := s) (w := w) (p := s109_p5 K (s 0) (s 1) w) (q := s109_p5_den K s w) (by kernel_rfl) (by kernel_rfl) (fun s w h => s109_p4_ok K s w @h) (by kernel_rfl) (by kernel_rfl) @h
def s109_p6 (K : Value → World → Prop) (t0 t1 : Value) (w : World) : Prop :=
  boI .lss t1 (.int .i64 0) (fun t5 w =>
  ifb t5
  (s109_p5 K t0 (.int .i64 0) w)
  (s109_p5 K t0 t1 w)) w
def s109_p6_den (K : Value → World → Prop) : (Nat → Value) → World → Prop := denL Tryz.prog [(cd (Tryz.f109.body.getD .skip) [0, 0]), (cd (Tryz.f109.body.getD .skip) [0, 1])] (s109_p5_den K) (fun i => (fun _ _ => False)) (s109_R K)
theorem s109_p6_ok (K : Value → World → Prop) (s : Nat → Value) (w : World) (h : s109_p6 K (s 0) (s 1) w) : Tr (s109_p6_den K s w) :=
  tr_simple (P := Tryz.prog) (codes := [(cd (Tryz.f109.body.getD .skip) [0, 0]), (cd (Tryz.f109.body.getD .skip) [0, 1])]) (N := (fun s w => s109_p5 K (s 0) (s 1) w)) (N' := (s109_p5_den K)) (X := (fun i => (fun _ _ => False))) (X' := (fun i => (fun _ _ => False))) (R := s109_R K) (s := s) (w := w) (p := s109_p6 K (s 0) (s 1) w) (q := s109_p6_den K s w) (fun s w h => s109_p5_ok K s w @h) (fun i => tr_id) (by kernel_rfl) (by kernel_rfl) @h
/-- the call, from the text -/
theorem c109 (t0 t1 : Value) {K : Value → World → Prop} {w : World} (h : s109_p6 K t0 t1 w) : cl Tryz.prog 109 #[t0, t1] K w :=
  calls_of_tr (c := (Tryz.f109.body.getD .skip)) (fn := Tryz.f109) (q := s109_p6_den K (st0 #[t0, t1]) w) Tryz.func109 (by kernel_rfl) (by kernel_rfl) (Nat.le_of_ble_eq_true (by kernel_rfl)) (by kernel_rfl) (by kernel_rfl) (s109_p6_ok K (st0 #[t0, t1]) w @h)

/-! ### function 32 : (*e2e.journalm.Journal).Arm -/
def s32_R (K : Value → World → Prop) (s : Nat → Value) (w : World) : Prop := retv Tryz.prog s Tryz.f32.results.toList (fun vs => K (pack vs) w) w
def s32_p1 (K : Value → World → Prop) (t0 t1 t2 : Value) (w : World) : Prop :=
  nck t0 (fun t8 w =>
  fd 8 t8 (fun t9 w =>
  st1 t9 (.int .i64 0) (fun w =>
  nck t0 (fun t10 w =>
  fd 9 t10 (fun t11 w =>
  st1 t11 (.int .i64 0) (fun w =>
  boI .geq t1 (.int .i64 1) (fun t13 w =>
  gd t13 true (fun K w => K t0 w) (fun t15 w =>
  gd t13 true (nck t15) (fun t16 w =>
  gd t13 true (fd 7 t16) (fun t17 w =>
  gd t13 true (ld1 t17) (fun t18 w =>
  gd t13 true (un .not t18) (fun t19 w =>
  pk t13 t19 (.bool false) (fun t20 w =>
  ifb t20
  (nck t0 (fun t25 w =>
  fd 8 t25 (fun t26 w =>
  st1 t26 t1 (fun w =>
  nck t0 (fun t27 w =>
  fd 9 t27 (fun t28 w =>
  st1 t28 t2 (fun w =>
  K (.tuple #[]) w) w) w) w) w) w) w)
  (K (.tuple #[]) w)) w) w) w) w) w) w) w) w) w) w) w) w) w
def s32_p1_den (K : Value → World → Prop) : (Nat → Value) → World → Prop := denL Tryz.prog [(cd (Tryz.f32.body.getD .skip) [0]), (cd (Tryz.f32.body.getD .skip) [1, 0]), (cd (Tryz.f32.body.getD .skip) [1, 1])] (s32_R K) (fun i => (fun _ _ => False)) (s32_R K)
theorem s32_p1_ok (K : Value → World → Prop) (s : Nat → Value) (w : World) (h : s32_p1 K (s 0) (s 1) (s 2) w) : Tr (s32_p1_den K s w) :=
  tr_simple (P := Tryz.prog) (codes := [(cd (Tryz.f32.body.getD .skip) [0]), (cd (Tryz.f32.body.getD .skip) [1, 0]), (cd (Tryz.f32.body.getD .skip) [1, 1])]) (N := (s32_R K)) (N' := (s32_R K)) (X := (fun i => (fun _ _ => False))) (X' := (fun i => (fun _ _ => False))) (R := s32_R K) (s := s) (w := w) (p := s32_p1 K (s 0) (s 1) (s 2) w) (q := s32_p1_den K s w) tr_id (fun i => tr_id) (by kernel_rfl) (by kernel_rfl) @h
/-- the call, from the text -/
theorem c32 (t0 t1 t2 : Value) {K : Value → World → Prop} {w : World} (h : s32_p1 K t0 t1 t2 w) : cl Tryz.prog 32 #[t0, t1, t2] K w :=
  calls_of_tr (c := (Tryz.f32.body.getD .skip)) (fn := Tryz.f32) (q := s32_p1_den K (st0 #[t0, t1, t2]) w) Tryz.func32 (by kernel_rfl) (by kernel_rfl) (Nat.le_of_ble_eq_true (by kernel_rfl)) (by kernel_rfl) (by kernel_rfl) (s32_p1_ok K (st0 #[t0, t1, t2]) w @h)

/-! ### function 110 : (*e2e.journalm.Journal).Restart -/
def s110_R (K : Value → World → Prop) (s : Nat → Value) (w : World) : Prop := retv Tryz.prog s Tryz.f110.results.toList (fun vs => K (pack vs) w) w
def s110_p1 (K : Value → World → Prop) (t0 : Value) (w : World) : Prop :=
  nck t0 (fun t3 w =>
  fd 7 t3 (fun t4 w =>
  st1 t4 (.bool false) (fun w =>
  K (.tuple #[]) w) w) w) w
def s110_p1_den (K : Value → World → Prop) : (Nat → Value) → World → Prop := denL Tryz.prog [(cd (Tryz.f110.body.getD .skip) [])] (s110_R K) (fun i => (fun _ _ => False)) (s110_R K)
theorem s110_p1_ok (K : Value → World → Prop) (s : Nat → Value) (w : World) (h : s110_p1 K (s 0) w) : Tr (s110_p1_den K s w) :=
  tr_simple (P := Tryz.prog) (codes := [(cd (Tryz.f110.body.getD .skip) [])]) (N := (s110_R K)) (N' := (s110_R K)) (X := (fun i => (fun _ _ => False))) (X' := (fun i => (fun _ _ => False))) (R := s110_R K) (s := s) (w := w) (p := s110_p1 K (s 0) w) (q := s110_p1_den K s w) tr_id (fun i => tr_id) (by kernel_rfl) (by kernel_rfl) @h
/-- the call, from the text -/
theorem c110 (t0 : Value) {K : Value → World → Prop} {w : World} (h : s110_p1 K t0 w) : cl Tryz.prog 110 #[t0] K w :=
  calls_of_tr (c := (Tryz.f110.body.getD .skip)) (fn := Tryz.f110) (q := s110_p1_den K (st0 #[t0]) w) Tryz.func110 (by kernel_rfl) (by kernel_rfl) (Nat.le_of_ble_eq_true (by kernel_rfl)) (by kernel_rfl) (by kernel_rfl) (s110_p1_ok K (st0 #[t0]) w @h)

/-! ### function 239 : (*e2e.journalm.Journal).Append -/
def s239_R (K : Value → World → Prop) (s : Nat → Value) (w : World) : Prop := retv Tryz.prog s Tryz.f239.results.toList (fun vs => K (pack vs) w) w
def s239_p1 (K : Value → World → Prop) (t0 : Value) (w : World) : Prop :=
  cl Tryz.prog 168 #[t0] (fun t34 w =>
  ifb t34
  (nck t0 (fun t37 w =>
  fd 9 t37 (fun t38 w =>
  ld1 t38 (fun t39 w =>
  cl Tryz.prog 109 #[t0, t39] (fun t40 w =>
  K (.int .i64 19) w) w) w) w) w)
  (K (.int .i64 0) w)) w
def s239_p1_den (K : Value → World → Prop) : (Nat → Value) → World → Prop := denL Tryz.prog [(cd (Tryz.f239.body.getD .skip) [1, 1, 1, 1, 1, 0, 0]), (cd (Tryz.f239.body.getD .skip) [1, 1, 1, 1, 1, 0, 1]), (cd (Tryz.f239.body.getD .skip) [1, 1, 1, 1, 1, 1, 0]), (cd (Tryz.f239.body.getD .skip) [1, 1, 1, 1, 1, 1, 1])] (fun _ _ => False) (fun i => (fun _ _ => False)) (s239_R K)
theorem s239_p1_ok (K : Value → World → Prop) (s : Nat → Value) (w : World) (h : s239_p1 K (s 0) w) : Tr (s239_p1_den K s w) :=
  tr_simple (P := Tryz.prog) (codes := [(cd (Tryz.f239.body.getD .skip) [1, 1, 1, 1, 1, 0, 0]), (cd (Tryz.f239.body.getD .skip) [1, 1, 1, 1, 1, 0, 1]), (cd (Tryz.f239.body.getD .skip) [1, 1, 1, 1, 1, 1, 0]), (cd (Tryz.f239.body.getD .skip) [1, 1, 1, 1, 1, 1, 1])]) (N := (fun _ _ => False)) (N' := (fun _ _ => False)) (X := (fun i => (fun _ _ => False))) (X' := (fun i => (fun _ _ => False))) (R := s239_R K) (s := s) (w := w) (p := s239_p1 K (s 0) w) (q := s239_p1_den K s w) tr_id (fun i => tr_id) (by kernel_rfl) (by kernel_rfl) @h
def s239_p2_d (K : Value → World → Prop) (t0 t1 : Value) (w0 w : World) : Prop :=
  nck t0 (fun t24 _ =>
  fd 5 t24 (fun t25 _ =>
  ld1 t25 (fun t26 _ =>
  nck t0 (fun t31 _ =>
  fd 5 t31 (fun t32 _ =>
  cl Tryz.prog 126 #[t1] (fun t28 w =>
  Below w0.heap.size w0 w ∧
  bsq 37 [(.slice none 0 0)] 1 [(some (0, 1), t28)] (fun t29 w =>
  Below w0.heap.size w0 w ∧
  apq 37 [(.slice none 0 0)] 24 t26 t29 (fun t30 w =>
  st1 t32 t30 (fun w =>
  s239_p1 K t0 w) w) w) w) w) w0) w0) w0) w0) w0
def s239_p2 (K : Value → World → Prop) (t0 t1 : Value) (w : World) : Prop := s239_p2_d K t0 t1 (drw w) (drw w)
def s239_p2_den (K : Value → World → Prop) : (Nat → Value) → World → Prop := denL Tryz.prog [(cd (Tryz.f239.body.getD .skip) [1, 1, 1, 1, 0])] (s239_p1_den K) (fun i => (fun _ _ => False)) (s239_R K)
theorem s239_p2_ok (K : Value → World → Prop) (s : Nat → Value) (w : World) (h : s239_p2 K (s 0) (s 1) w) : Tr (s239_p2_den K s w) :=
  tr_draw (P := Tryz.prog) (ops := (ro (cd (Tryz.f239.body.getD .skip) [1, 1, 1, 1, 0]))) (ms := [0, 0, 2, 6, 14, 0, 32, 96, 254, 511, 1023, 2047]) (cs := [0, 1, 2, 3, 4, 5, 9, 10]) (N := (fun s w => s239_p1 K (s 0) w)) (N' := (s239_p1_den K)) (s := s) (w := w) (p := s239_p2 K (s 0) (s 1) w) (q := s239_p2_den K s w) (by kernel_rfl) (by kernel_rfl) (fun s w h => s239_p1_ok K s w @h) (by kernel_rfl) (by kernel_rfl) @h
def s239_p3 (K : Value → World → Prop) (t0 t1 : Value) (w : World) : Prop :=
  nck t0 (fun t6 w =>
  fd 7 t6 (fun t7 w =>
  ld1 t7 (fun t8 w =>
  ifb t8
  (K (.int .i64 19) w)
  (lnS t1 (fun t10 w =>
  nck t0 (fun t12 w =>
  fd 0 t12 (fun t13 w =>
  fd 0 t13 (fun t14 w =>
  ld1 t14 (fun t15 w =>
  boI .gtr t10 t15 (fun t16 w =>
  ifb t16
  (K (.int .i64 18) w)
  (lnS t1 (fun t18 w =>
  cl Tryz.prog 48 #[t0] (fun t20 w =>
  boI .gtr t18 t20 (fun t21 w =>
  ifb t21
  (K (.int .i64 17) w)
  (s239_p2 K t0 t1 w)) w) w) w)) w) w) w) w) w) w)) w) w) w
def s239_p3_den (K : Value → World → Prop) : (Nat → Value) → World → Prop := denL Tryz.prog [(cd (Tryz.f239.body.getD .skip) [0]), (cd (Tryz.f239.body.getD .skip) [1, 0, 0]), (cd (Tryz.f239.body.getD .skip) [1, 0, 1]), (cd (Tryz.f239.body.getD .skip) [1, 1, 0, 0]), (cd (Tryz.f239.body.getD .skip) [1, 1, 0, 1]), (cd (Tryz.f239.body.getD .skip) [1, 1, 1, 0, 0]), (cd (Tryz.f239.body.getD .skip) [1, 1, 1, 0, 1])] (s239_p2_den K) (fun i => (fun _ _ => False)) (s239_R K)
theorem s239_p3_ok (K : Value → World → Prop) (s : Nat → Value) (w : World) (h : s239_p3 K (s 0) (s 1) w) : Tr (s239_p3_den K s w) :=
  tr_simple (P := Tryz.prog) (codes := [(cd (Tryz.f239.body.getD .skip) [0]), (cd (Tryz.f239.body.getD .skip) [1, 0, 0]), (cd (Tryz.f239.body.getD .skip) [1, 0, 1]), (cd (Tryz.f239.body.getD .skip) [1, 1, 0, 0]), (cd (Tryz.f239.body.getD .skip) [1, 1, 0, 1]), (cd (Tryz.f239.body.getD .skip) [1, 1, 1, 0, 0]), (cd (Tryz.f239.body.getD .skip) [1, 1, 1, 0, 1])]) (N := (fun s w => s239_p2 K (s 0) (s 1) w)) (N' := (s239_p2_den K)) (X := (fun i => (fun _ _ => False))) (X' := (fun i => (fun _ _ => False))) (R := s239_R K) (s := s) (w := w) (p := s239_p3 K (s 0) (s 1) w) (q := s239_p3_den K s w) (fun s w h => s239_p2_ok K s w @h) (fun i => tr_id) (by kernel_rfl) (by kernel_rfl) @h
/-- the call, from the text -/
theorem c239 (t0 t1 : Value) {K : Value → World → Prop} {w : World} (h : s239_p3 K t0 t1 w) : cl Tryz.prog 239 #[t0, t1] K w :=
  calls_of_tr (c := (Tryz.f239.body.getD .skip)) (fn := Tryz.f239) (q := s239_p3_den K (st0 #[t0, t1]) w) Tryz.func239 (by kernel_rfl) (by kernel_rfl) (Nat.le_of_ble_eq_true (by kernel_rfl)) (by kernel_rfl) (by kernel_rfl) (s239_p3_ok K (st0 #[t0, t1]) w @h)

/-! ### function 179 : (*e2e.journalm.Journal).Commit -/
def s179_R (K : Value → World → Prop) (s : Nat → Value) (w : World) : Prop := retv Tryz.prog s Tryz.f179.results.toList (fun vs => K (pack vs) w) w
def s179_p1 (K : Value → World → Prop) (t0 : Value) (w : World) : Prop :=
  nck t0 (fun t4 w =>
  fd 7 t4 (fun t5 w =>
  ld1 t5 (fun t6 w =>
  ifb t6
  (K (.int .i64 19) w)
  (cl Tryz.prog 168 #[t0] (fun t8 w =>
  ifb t8
  (nck t0 (fun t11 w =>
  fd 9 t11 (fun t12 w =>
  ld1 t12 (fun t13 w =>
  cl Tryz.prog 109 #[t0, t13] (fun t14 w =>
  K (.int .i64 19) w) w) w) w) w)
  (nck t0 (fun t17 w =>
  fd 5 t17 (fun t18 w =>
  ld1 t18 (fun t19 w =>
  lnS t19 (fun t20 w =>
  nck t0 (fun t21 w =>
  fd 6 t21 (fun t22 w =>
  st1 t22 t20 (fun w =>
  K (.int .i64 0) w) w) w) w) w) w) w) w)) w)) w) w) w
def s179_p1_den (K : Value → World → Prop) : (Nat → Value) → World → Prop := denL Tryz.prog [(cd (Tryz.f179.body.getD .skip) [0]), (cd (Tryz.f179.body.getD .skip) [1, 0, 0]), (cd (Tryz.f179.body.getD .skip) [1, 0, 1]), (cd (Tryz.f179.body.getD .skip) [1, 1, 0, 0]), (cd (Tryz.f179.body.getD .skip) [1, 1, 0, 1]), (cd (Tryz.f179.body.getD .skip) [1, 1, 1, 0]), (cd (Tryz.f179.body.getD .skip) [1, 1, 1, 1, 0]), (cd (Tryz.f179.body.getD .skip) [1, 1, 1, 1, 1])] (fun _ _ => False) (fun i => (fun _ _ => False)) (s179_R K)
theorem s179_p1_ok (K : Value → World → Prop) (s : Nat → Value) (w : World) (h : s179_p1 K (s 0) w) : Tr (s179_p1_den K s w) :=
  tr_simple (P := Tryz.prog) (codes := [(cd (Tryz.f179.body.getD .skip) [0]), (cd (Tryz.f179.body.getD .skip) [1, 0, 0]), (cd (Tryz.f179.body.getD .skip) [1, 0, 1]), (cd (Tryz.f179.body.getD .skip) [1, 1, 0, 0]), (cd (Tryz.f179.body.getD .skip) [1, 1, 0, 1]), (cd (Tryz.f179.body.getD .skip) [1, 1, 1, 0]), (cd (Tryz.f179.body.getD .skip) [1, 1, 1, 1, 0]), (cd (Tryz.f179.body.getD .skip) [1, 1, 1, 1, 1])]) (N := (fun _ _ => False)) (N' := (fun _ _ => False)) (X := (fun i => (fun _ _ => False))) (X' := (fun i => (fun _ _ => False))) (R := s179_R K) (s := s) (w := w) (p := s179_p1 K (s 0) w) (q := s179_p1_den K s w) tr_id (fun i => tr_id) (by kernel_rfl) (by kernel_rfl) @h
/-- the call, from the text -/
theorem c179 (t0 : Value) {K : Value → World → Prop} {w : World} (h : s179_p1 K t0 w) : cl Tryz.prog 179 #[t0] K w :=
  calls_of_tr (c := (Tryz.f179.body.getD .skip)) (fn := Tryz.f179) (q := s179_p1_den K (st0 #[t0]) w) Tryz.func179 (by kernel_rfl) (by kernel_rfl) (Nat.le_of_ble_eq_true (by kernel_rfl)) (by kernel_rfl) (by kernel_rfl) (s179_p1_ok K (st0 #[t0]) w @h)

/-! ### function 188 : (*e2e.journalm.Journal).Snapshot -/
def s188_R (K : Value → World → Prop) (s : Nat → Value) (w : World) : Prop := retv Tryz.prog s Tryz.f188.results.toList (fun vs => K (pack vs) w) w
def s188_p1 (K : Value → World → Prop) (t0 t5 : Value) (w : World) : Prop :=
  ifb t5
  (nck t0 (fun t47 w =>
  fd 9 t47 (fun t48 w =>
  ld1 t48 (fun t49 w =>
  cl Tryz.prog 109 #[t0, t49] (fun t50 w =>
  K (.int .i64 19) w) w) w) w) w)
  (K (.int .i64 0) w)
def s188_p1_den (K : Value → World → Prop) : (Nat → Value) → World → Prop := denL Tryz.prog [(cd (Tryz.f188.body.getD .skip) [1, 1, 1, 1, 1, 0, 0]), (cd (Tryz.f188.body.getD .skip) [1, 1, 1, 1, 1, 0, 1]), (cd (Tryz.f188.body.getD .skip) [1, 1, 1, 1, 1, 1, 0]), (cd (Tryz.f188.body.getD .skip) [1, 1, 1, 1, 1, 1, 1])] (fun _ _ => False) (fun i => (fun _ _ => False)) (s188_R K)
theorem s188_p1_ok (K : Value → World → Prop) (s : Nat → Value) (w : World) (h : s188_p1 K (s 0) (s 5) w) : Tr (s188_p1_den K s w) :=
  tr_simple (P := Tryz.prog) (codes := [(cd (Tryz.f188.body.getD .skip) [1, 1, 1, 1, 1, 0, 0]), (cd (Tryz.f188.body.getD .skip) [1, 1, 1, 1, 1, 0, 1]), (cd (Tryz.f188.body.getD .skip) [1, 1, 1, 1, 1, 1, 0]), (cd (Tryz.f188.body.getD .skip) [1, 1, 1, 1, 1, 1, 1])]) (N := (fun _ _ => False)) (N' := (fun _ _ => False)) (X := (fun i => (fun _ _ => False))) (X' := (fun i => (fun _ _ => False))) (R := s188_R K) (s := s) (w := w) (p := s188_p1 K (s 0) (s 5) w) (q := s188_p1_den K s w) tr_id (fun i => tr_id) (by kernel_rfl) (by kernel_rfl) @h
def s188_p2 (K : Value → World → Prop) (t0 t1 : Value) (w : World) : Prop :=
  nck t0 (fun t7 w =>
  fd 7 t7 (fun t8 w =>
  ld1 t8 (fun t9 w =>
  ifb t9
  (K (.int .i64 19) w)
  (lnS t1 (fun t11 w =>
  nck t0 (fun t13 w =>
  fd 0 t13 (fun t14 w =>
  fd 2 t14 (fun t15 w =>
  ld1 t15 (fun t16 w =>
  boI .gtr t11 t16 (fun t17 w =>
  ifb t17
  (K (.int .i64 18) w)
  (cl Tryz.prog 168 #[t0] (fun t19 w =>
  un .not t19 (fun t21 w =>
  gd t21 false (fun K w => K t0 w) (fun t23 w =>
  gd t21 false (nck t23) (fun t24 w =>
  gd t21 false (fd 9 t24) (fun t25 w =>
  gd t21 false (ld1 t25) (fun t26 w =>
  gd t21 false (boI .rem t26 (.int .i64 2)) (fun t27 w =>
  gd t21 false (boI .eql t27 (.int .i64 1)) (fun t28 w =>
  pk t21 (.bool true) t28 (fun t29 w =>
  ifb t29
  (cl Tryz.prog 126 #[t1] (fun t35 w =>
  nck t0 (fun t36 w =>
  fd 3 t36 (fun t37 w =>
  st1 t37 (.bool true) (fun w =>
  nck t0 (fun t38 w =>
  fd 4 t38 (fun t39 w =>
  st1 t39 t35 (fun w =>
  nck t0 (fun t40 w =>
  fd 5 t40 (fun t41 w =>
  st1 t41 (.slice none 0 0) (fun w =>
  nck t0 (fun t42 w =>
  fd 6 t42 (fun t43 w =>
  st1 t43 (.int .i64 0) (fun w =>
  s188_p1 K t0 t19 w) w) w) w) w) w) w) w) w) w) w) w) w) w)
  (s188_p1 K t0 t19 w)) w) w) w) w) w) w) w) w) w)) w) w) w) w) w) w)) w) w) w
def s188_p2_den (K : Value → World → Prop) : (Nat → Value) → World → Prop := denL Tryz.prog [(cd (Tryz.f188.body.getD .skip) [0]), (cd (Tryz.f188.body.getD .skip) [1, 0, 0]), (cd (Tryz.f188.body.getD .skip) [1, 0, 1]), (cd (Tryz.f188.body.getD .skip) [1, 1, 0, 0]), (cd (Tryz.f188.body.getD .skip) [1, 1, 0, 1]), (cd (Tryz.f188.body.getD .skip) [1, 1, 1, 0]), (cd (Tryz.f188.body.getD .skip) [1, 1, 1, 1, 0, 0]), (cd (Tryz.f188.body.getD .skip) [1, 1, 1, 1, 0, 1])] (s188_p1_den K) (fun i => (fun _ _ => False)) (s188_R K)
theorem s188_p2_ok (K : Value → World → Prop) (s : Nat → Value) (w : World) (h : s188_p2 K (s 0) (s 1) w) : Tr (s188_p2_den K s w) :=
  tr_simple (P := Tryz.prog) (codes := [(cd (Tryz.f188.body.getD .skip) [0]), (cd (Tryz.f188.body.getD .skip) [1, 0, 0]), (cd (Tryz.f188.body.getD .skip) [1, 0, 1]), (cd (Tryz.f188.body.getD .skip) [1, 1, 0, 0]), (cd (Tryz.f188.body.getD .skip) [1, 1, 0, 1]), (cd (Tryz.f188.body.getD .skip) [1, 1, 1, 0]), (cd (Tryz.f188.body.getD .skip) [1, 1, 1, 1, 0, 0]), (cd (Tryz.f188.body.getD .skip) [1, 1, 1, 1, 0, 1])]) (N := (fun s w => s188_p1 K (s 0) (s 5) w)) (N' := (s188_p1_den K)) (X := (fun i => (fun _ _ => False))) (X' := (fun i => (fun _ _ => False))) (R := s188_R K) (s := s) (w := w) (p := s188_p2 K (s 0) (s 1) w) (q := s188_p2_den K s w) (fun s w h => s188_p1_ok K s w @h) (fun i => tr_id) (by kernel_rfl) (by kernel_rfl) @h
/-- the call, from the text -/
theorem c188 (t0 t1 : Value) {K : Value → World → Prop} {w : World} (h : s188_p2 K t0 t1 w) : cl Tryz.prog 188 #[t0, t1] K w :=
  calls_of_tr (c := (Tryz.f188.body.getD .skip)) (fn := Tryz.f188) (q := s188_p2_den K (st0 #[t0, t1]) w) Tryz.func188 (by kernel_rfl) (by kernel_rfl) (Nat.le_of_ble_eq_true (by kernel_rfl)) (by kernel_rfl) (by kernel_rfl) (s188_p2_ok K (st0 #[t0, t1]) w @h)

/-! ### function 120 : (*e2e.journalm.Journal).Recover -/
def s120_R (K : Value → World → Prop) (s : Nat → Value) (w : World) : Prop := retv Tryz.prog s Tryz.f120.results.toList (fun vs => K (pack vs) w) w
def s120_p1 (K : Value → World → Prop) (t2 t3 t4 t5 : Value) (w : World) : Prop :=
  K (.tuple #[t2, t3, t4, t5]) w
def s120_p1_den (K : Value → World → Prop) : (Nat → Value) → World → Prop := denL Tryz.prog [(cd (Tryz.f120.body.getD .skip) [1, 1, 1, 1, 1])] (fun _ _ => False) (fun i => (fun _ _ => False)) (s120_R K)
theorem s120_p1_ok (K : Value → World → Prop) (s : Nat → Value) (w : World) (h : s120_p1 K (s 2) (s 3) (s 4) (s 5) w) : Tr (s120_p1_den K s w) :=
  tr_simple (P := Tryz.prog) (codes := [(cd (Tryz.f120.body.getD .skip) [1, 1, 1, 1, 1])]) (N := (fun _ _ => False)) (N' := (fun _ _ => False)) (X := (fun i => (fun _ _ => False))) (X' := (fun i => (fun _ _ => False))) (R := s120_R K) (s := s) (w := w) (p := s120_p1 K (s 2) (s 3) (s 4) (s 5) w) (q := s120_p1_den K s w) tr_id (fun i => tr_id) (by kernel_rfl) (by kernel_rfl) @h
def s120_p2_d (K : Value → World → Prop) (t6 : Value) (w0 w : World) : Prop :=
  nck t6 (fun t22 _ =>
  fd 4 t22 (fun t23 _ =>
  ld1 t23 (fun t24 _ =>
  nck t6 (fun t26 _ =>
  fd 3 t26 (fun t27 _ =>
  ld1 t27 (fun t28 _ =>
  nck t6 (fun t30 _ =>
  fd 5 t30 (fun t31 _ =>
  ld1 t31 (fun t32 _ =>
  s120_p1 K t24 t28 t32 (.int .i64 0) w) w0) w0) w0) w0) w0) w0) w0) w0) w0
def s120_p2 (K : Value → World → Prop) (t6 : Value) (w : World) : Prop := s120_p2_d K t6 (drw w) (drw w)
def s120_p2_den (K : Value → World → Prop) : (Nat → Value) → World → Prop := denL Tryz.prog [(cd (Tryz.f120.body.getD .skip) [1, 1, 1, 1, 0])] (s120_p1_den K) (fun i => (fun _ _ => False)) (s120_R K)
theorem s120_p2_ok (K : Value → World → Prop) (s : Nat → Value) (w : World) (h : s120_p2 K (s 6) w) : Tr (s120_p2_den K s w) :=
  tr_draw (P := Tryz.prog) (ops := (ro (cd (Tryz.f120.body.getD .skip) [1, 1, 1, 1, 0]))) (ms := [0, 1, 3, 7, 0, 16, 48, 112, 0, 256, 768, 1792, 15, 4351, 16383, 32767]) (cs := [0, 1, 2, 3, 4, 5, 6, 7, 8, 9, 10, 11, 12, 13, 14, 15]) (N := (fun s w => s120_p1 K (s 2) (s 3) (s 4) (s 5) w)) (N' := (s120_p1_den K)) (s := s) (w := w) (p := s120_p2 K (s 6) w) (q := s120_p2_den K s w) (by kernel_rfl) (by kernel_rfl) (fun s w h => s120_p1_ok K s w @h) (by kernel_rfl) (by kernel_rfl) @h
def s120_p3 (K : Value → World → Prop) (t0 : Value) (w : World) : Prop :=
  nck t0 (fun t8 w =>
  fd 7 t8 (fun t9 w =>
  ld1 t9 (fun t10 w =>
  ifb t10
  (K (.tuple #[(.slice none 0 0), (.bool false), (.slice none 0 0), (.int .i64 19)]) w)
  (cl Tryz.prog 168 #[t0] (fun t12 w =>
  ifb t12
  (nck t0 (fun t15 w =>
  fd 9 t15 (fun t16 w =>
  ld1 t16 (fun t17 w =>
  cl Tryz.prog 109 #[t0, t17] (fun t18 w =>
  K (.tuple #[(.slice none 0 0), (.bool false), (.slice none 0 0), (.int .i64 19)]) w) w) w) w) w)
  (cl Tryz.prog 39 #[t0] (fun t20 w =>
  s120_p2 K t20 w) w)) w)) w) w) w
def s120_p3_den (K : Value → World → Prop) : (Nat → Value) → World → Prop := denL Tryz.prog [(cd (Tryz.f120.body.getD .skip) [0]), (cd (Tryz.f120.body.getD .skip) [1, 0, 0]), (cd (Tryz.f120.body.getD .skip) [1, 0, 1]), (cd (Tryz.f120.body.getD .skip) [1, 1, 0, 0]), (cd (Tryz.f120.body.getD .skip) [1, 1, 0, 1]), (cd (Tryz.f120.body.getD .skip) [1, 1, 1, 0])] (s120_p2_den K) (fun i => (fun _ _ => False)) (s120_R K)
theorem s120_p3_ok (K : Value → World → Prop) (s : Nat → Value) (w : World) (h : s120_p3 K (s 0) w) : Tr (s120_p3_den K s w) :=
  tr_simple (P := Tryz.prog) (codes := [(cd (Tryz.f120.body.getD .skip) [0]), (cd (Tryz.f120.body.getD .skip) [1, 0, 0]), (cd (Tryz.f120.body.getD .skip) [1, 0, 1]), (cd (Tryz.f120.body.getD .skip) [1, 1, 0, 0]), (cd (Tryz.f120.body.getD .skip) [1, 1, 0, 1]), (cd (Tryz.f120.body.getD .skip) [1, 1, 1, 0])]) (N := (fun s w => s120_p2 K (s 6) w)) (N' := (s120_p2_den K)) (X := (fun i => (fun _ _ => False))) (X' := (fun i => (fun _ _ => False))) (R := s120_R K) (s := s) (w := w) (p := s120_p3 K (s 0) w) (q := s120_p3_den K s w) (fun s w h => s120_p2_ok K s w @h) (fun i => tr_id) (by kernel_rfl) (by kernel_rfl) @h
/-- the call, from the text -/
theorem c120 (t0 : Value) {K : Value → World → Prop} {w : World} (h : s120_p3 K t0 w) : cl Tryz.prog 120 #[t0] K w :=
  calls_of_tr (c := (Tryz.f120.body.getD .skip)) (fn := Tryz.f120) (q := s120_p3_den K (st0 #[t0]) w) Tryz.func120 (by kernel_rfl) (by kernel_rfl) (Nat.le_of_ble_eq_true (by kernel_rfl)) (by kernel_rfl) (by kernel_rfl) (s120_p3_ok K (st0 #[t0]) w @h)

/-! ### function 119 : e2e.engine.ValidConfig -/
def s119_R (K : Value → World → Prop) (s : Nat → Value) (w : World) : Prop := retv Tryz.prog s Tryz.f119.results.toList (fun vs => K (pack vs) w) w
def s119_p1 (K : Value → World → Prop) (t1 t3 : Value) (w : World) : Prop :=
  fd 1 t1 (fun t23 w =>
  ld1 t23 (fun t24 w =>
  cl Tryz.prog 167 #[t24, t3] (fun t26 w =>
  un .not t26 (fun t27 w =>
  ifb t27
  (K (.bool false) w)
  (fd 2 t1 (fun t28 w =>
  ld1 t28 (fun t29 w =>
  cl Tryz.prog 165 #[t29, (.int .i64 2), (.int .i64 1048576)] (fun t30 w =>
  un .not t30 (fun t31 w =>
  gd t31 false (fd 3 t1) (fun t33 w =>
  gd t31 false (ld1 t33) (fun t34 w =>
  gd t31 false (cl Tryz.prog 165 #[t34, (.int .i64 0), (.int .i64 1099511627776)]) (fun t35 w =>
  gd t31 false (un .not t35) (fun t36 w =>
  pk t31 (.bool true) t36 (fun t37 w =>
  ifb t37
  (K (.bool false) w)
  (fd 9 t1 (fun t38 w =>
  ld1 t38 (fun t39 w =>
  fd 2 t1 (fun t40 w =>
  ld1 t40 (fun t41 w =>
  boI .sub t41 (.int .i64 1) (fun t42 w =>
  cl Tryz.prog 165 #[t39, (.int .i64 1), t42] (fun t43 w =>
  un .not t43 (fun t44 w =>
  ifb t44
  (K (.bool false) w)
  (fd 4 t1 (fun t45 w =>
  ld1 t45 (fun t46 w =>
  cl Tryz.prog 165 #[t46, (.int .i64 1), (.int .i64 1073741824)] (fun t47 w =>
  un .not t47 (fun t48 w =>
  gd t48 false (fd 5 t1) (fun t50 w =>
  gd t48 false (ld1 t50) (fun t51 w =>
  gd t48 false (cl Tryz.prog 165 #[t51, (.int .i64 1), (.int .i64 8)]) (fun t52 w =>
  gd t48 false (un .not t52) (fun t53 w =>
  pk t48 (.bool true) t53 (fun t54 w =>
  ifb t54
  (K (.bool false) w)
  (fd 6 t1 (fun t55 w =>
  ld1 t55 (fun t56 w =>
  cl Tryz.prog 165 #[t56, (.int .i64 1), (.int .i64 1048576)] (fun t57 w =>
  un .not t57 (fun t58 w =>
  gd t58 false (fd 7 t1) (fun t60 w =>
  gd t58 false (ld1 t60) (fun t61 w =>
  gd t58 false (cl Tryz.prog 165 #[t61, (.int .i64 1), (.int .i64 1048576)]) (fun t62 w =>
  gd t58 false (un .not t62) (fun t63 w =>
  pk t58 (.bool true) t63 (fun t64 w =>
  gd t64 false (fd 8 t1) (fun t66 w =>
  gd t64 false (ld1 t66) (fun t67 w =>
  gd t64 false (cl Tryz.prog 165 #[t67, (.int .i64 1), (.int .i64 1048576)]) (fun t68 w =>
  gd t64 false (un .not t68) (fun t69 w =>
  pk t64 (.bool true) t69 (fun t70 w =>
  ifb t70
  (K (.bool false) w)
  (fd 10 t1 (fun t71 w =>
  ld1 t71 (fun t72 w =>
  cl Tryz.prog 165 #[t72, (.int .i64 1), (.int .i64 16777216)] (fun t73 w =>
  un .not t73 (fun t74 w =>
  gd t74 false (fd 11 t1) (fun t76 w =>
  gd t74 false (ld1 t76) (fun t77 w =>
  gd t74 false (cl Tryz.prog 165 #[t77, (.int .i64 1), (.int .i64 16777216)]) (fun t78 w =>
  gd t74 false (un .not t78) (fun t79 w =>
  pk t74 (.bool true) t79 (fun t80 w =>
  ifb t80
  (K (.bool false) w)
  (fd 12 t1 (fun t81 w =>
  ld1 t81 (fun t82 w =>
  cl Tryz.prog 165 #[t82, (.int .i64 1), (.int .i64 16777216)] (fun t83 w =>
  gd t83 true (fd 13 t1) (fun t85 w =>
  gd t83 true (ld1 t85) (fun t86 w =>
  gd t83 true (cl Tryz.prog 165 #[t86, (.int .i64 1), (.int .i64 16777216)]) (fun t87 w =>
  pk t83 t87 (.bool false) (fun t88 w =>
  K t88 w) w) w) w) w) w) w) w)) w) w) w) w) w) w) w) w) w)) w) w) w) w) w) w) w) w) w) w) w) w) w) w)) w) w) w) w) w) w) w) w) w)) w) w) w) w) w) w) w)) w) w) w) w) w) w) w) w) w)) w) w) w) w
def s119_p1_den (K : Value → World → Prop) : (Nat → Value) → World → Prop := denL Tryz.prog [(cd (Tryz.f119.body.getD .skip) [1, 1, 1, 1, 0, 0]), (cd (Tryz.f119.body.getD .skip) [1, 1, 1, 1, 0, 1]), (cd (Tryz.f119.body.getD .skip) [1, 1, 1, 1, 1, 0, 0]), (cd (Tryz.f119.body.getD .skip) [1, 1, 1, 1, 1, 0, 1]), (cd (Tryz.f119.body.getD .skip) [1, 1, 1, 1, 1, 1, 0, 0]), (cd (Tryz.f119.body.getD .skip) [1, 1, 1, 1, 1, 1, 0, 1]), (cd (Tryz.f119.body.getD .skip) [1, 1, 1, 1, 1, 1, 1, 0, 0]), (cd (Tryz.f119.body.getD .skip) [1, 1, 1, 1, 1, 1, 1, 0, 1]), (cd (Tryz.f119.body.getD .skip) [1, 1, 1, 1, 1, 1, 1, 1, 0, 0]), (cd (Tryz.f119.body.getD .skip) [1, 1, 1, 1, 1, 1, 1, 1, 0, 1]), (cd (Tryz.f119.body.getD .skip) [1, 1, 1, 1, 1, 1, 1, 1, 1, 0, 0]), (cd (Tryz.f119.body.getD .skip) [1, 1, 1, 1, 1, 1, 1, 1, 1, 0, 1]), (cd (Tryz.f119.body.getD .skip) [1, 1, 1, 1, 1, 1, 1, 1, 1, 1, 0]), (cd (Tryz.f119.body.getD .skip) [1, 1, 1, 1, 1, 1, 1, 1, 1, 1, 1])] (fun _ _ => False) (fun i => (fun _ _ => False)) (s119_R K)
theorem s119_p1_ok (K : Value → World → Prop) (s : Nat → Value) (w : World) (h : s119_p1 K (s 1) (s 3) w) : Tr (s119_p1_den K s w) :=
  tr_simple (P := Tryz.prog) (codes := [(cd (Tryz.f119.body.getD .skip) [1, 1, 1, 1, 0, 0]), (cd (Tryz.f119.body.getD .skip) [1, 1, 1, 1, 0, 1]), (cd (Tryz.f119.body.getD .skip) [1, 1, 1, 1, 1, 0, 0]), (cd (Tryz.f119.body.getD .skip) [1, 1, 1, 1, 1, 0, 1]), (cd (Tryz.f119.body.getD .skip) [1, 1, 1, 1, 1, 1, 0, 0]), (cd (Tryz.f119.body.getD .skip) [1, 1, 1, 1, 1, 1, 0, 1]), (cd (Tryz.f119.body.getD .skip) [1, 1, 1, 1, 1, 1, 1, 0, 0]), (cd (Tryz.f119.body.getD .skip) [1, 1, 1, 1, 1, 1, 1, 0, 1]), (cd (Tryz.f119.body.getD .skip) [1, 1, 1, 1, 1, 1, 1, 1, 0, 0]), (cd (Tryz.f119.body.getD .skip) [1, 1, 1, 1, 1, 1, 1, 1, 0, 1]), (cd (Tryz.f119.body.getD .skip) [1, 1, 1, 1, 1, 1, 1, 1, 1, 0, 0]), (cd (Tryz.f119.body.getD .skip) [1, 1, 1, 1, 1, 1, 1, 1, 1, 0, 1]), (cd (Tryz.f119.body.getD .skip) [1, 1, 1, 1, 1, 1, 1, 1, 1, 1, 0]), (cd (Tryz.f119.body.getD .skip) [1, 1, 1, 1, 1, 1, 1, 1, 1, 1, 1])]) (N := (fun _ _ => False)) (N' := (fun _ _ => False)) (X := (fun i => (fun _ _ => False))) (X' := (fun i => (fun _ _ => False))) (R := s119_R K) (s := s) (w := w) (p := s119_p1 K (s 1) (s 3) w) (q := s119_p1_den K s w) tr_id (fun i => tr_id) (by kernel_rfl) (by kernel_rfl) @h
def s119_p2 (K : Value → World → Prop) (B1 : List Value → World → Prop) (t1 t3 t13 t14 t15 : Value) (w : World) : Prop :=
  boI .lss t15 t14 (fun t16 w =>
  ifb t16
  (ixs 5 t13 t15 (fun t17 w =>
  ldn 5 t17 (fun t18 w =>
  nw 113 #[(.int .i64 0), (.int .i64 0), (.int .i64 0), (.int .i64 0), (.int .i64 0)] (fun t5 w =>
  stn 5 t5 t18 (fun w =>
  ldn 5 t5 (fun t19 w =>
  cl Tryz.prog 166 #[t19] (fun t20 w =>
  un .not t20 (fun t21 w =>
  ifb t21
  (K (.bool false) w)
  (boI .add t15 (.int .i64 1) (fun t22 w =>
  B1 [t1, t3, t13, t14, t22] w) w)) w) w) w) w) w) w) w)
  (s119_p1 K t1 t3 w)) w
def s119_p2_den (K : Value → World → Prop) (M1 : (Nat → Value) → World → Prop) : (Nat → Value) → World → Prop := denL Tryz.prog [(cd (Tryz.f119.body.getD .skip) [1, 1, 1, 0, 1, 0, 0, 0]), (cd (Tryz.f119.body.getD .skip) [1, 1, 1, 0, 1, 0, 0, 1, 0]), (cd (Tryz.f119.body.getD .skip) [1, 1, 1, 0, 1, 0, 0, 1, 1, 0]), (cd (Tryz.f119.body.getD .skip) [1, 1, 1, 0, 1, 0, 0, 1, 1, 1])] M1 (fun i => (bif Nat.beq i 0 then (s119_p1_den K) else (fun _ _ => False))) (s119_R K)
theorem s119_p2_ok (K : Value → World → Prop) (B1 : List Value → World → Prop) (s : Nat → Value) (w : World) (h : s119_p2 K B1 (s 1) (s 3) (s 13) (s 14) (s 15) w) : Tr (s119_p2_den K (fun s w => B1 [s 1, s 3, s 13, s 14, s 15] w) s w) :=
  tr_simple (P := Tryz.prog) (codes := [(cd (Tryz.f119.body.getD .skip) [1, 1, 1, 0, 1, 0, 0, 0]), (cd (Tryz.f119.body.getD .skip) [1, 1, 1, 0, 1, 0, 0, 1, 0]), (cd (Tryz.f119.body.getD .skip) [1, 1, 1, 0, 1, 0, 0, 1, 1, 0]), (cd (Tryz.f119.body.getD .skip) [1, 1, 1, 0, 1, 0, 0, 1, 1, 1])]) (N := (fun s w => B1 [s 1, s 3, s 13, s 14, s 15] w)) (N' := (fun s w => B1 [s 1, s 3, s 13, s 14, s 15] w)) (X := (fun i => (bif Nat.beq i 0 then (fun s w => s119_p1 K (s 1) (s 3) w) else (fun _ _ => False)))) (X' := (fun i => (bif Nat.beq i 0 then (s119_p1_den K) else (fun _ _ => False)))) (R := s119_R K) (s := s) (w := w) (p := s119_p2 K B1 (s 1) (s 3) (s 13) (s 14) (s 15) w) (q := s119_p2_den K (fun s w => B1 [s 1, s 3, s 13, s 14, s 15] w) s w) tr_id (fun i => (tr_bif (fun s w h => s119_p1_ok K s w @h) tr_id)) (by kernel_rfl) (by kernel_rfl) @h
def s119_p3_F (K : Value → World → Prop) (B1 : List Value → World → Prop) (l : List Value) (w : World) : Prop :=
  match l with
  | [t1, t3, t13, t14, t15] => s119_p2 K B1 t1 t3 t13 t14 t15 w
  | _ => False
theorem s119_p3_Fe {K : Value → World → Prop} {B1 : List Value → World → Prop} {t1 t3 t13 t14 t15 : Value} {w : World} : s119_p3_F K B1 [t1, t3, t13, t14, t15] w = s119_p2 K B1 t1 t3 t13 t14 t15 w := by kernel_rfl
def s119_p3 (K : Value → World → Prop) (t1 t3 t13 t14 t15 : Value) (w : World) : Prop :=
  LoopL (s119_p3_F K) [t1, t3, t13, t14, t15] w
def s119_p3_den (K : Value → World → Prop) : (Nat → Value) → World → Prop := fun s w => LoopP (fun M1 s w => s119_p2_den K M1 s w) s w
theorem s119_p3_ok (K : Value → World → Prop) (s : Nat → Value) (w : World) (h : s119_p3 K (s 1) (s 3) (s 13) (s 14) (s 15) w) : Tr (s119_p3_den K s w) :=
  tr_loop (G := fun N' s w => s119_p2_den K N' s w) (F := s119_p3_F K) (sel := fun s => [s 1, s 3, s 13, s 14, s 15]) (s := s) (w := w) (p := s119_p3 K (s 1) (s 3) (s 13) (s 14) (s 15) w) (q := s119_p3_den K s w) (fun B s w h => s119_p2_ok K B s w @h) (by kernel_rfl) (by kernel_rfl) @h
def s119_p4 (K : Value → World → Prop) (t0 : Value) (w : World) : Prop :=
  nw 34 (t0).cells (fun t1 w =>
  fd 0 t1 (fun t6 w =>
  ld1 t6 (fun t7 w =>
  lnS t7 (fun t8 w =>
  cl Tryz.prog 165 #[t8, (.int .i64 1), (.int .i64 1024)] (fun t10 w =>
  un .not t10 (fun t11 w =>
  ifb t11
  (K (.bool false) w)
  (fd 0 t1 (fun t12 w =>
  ld1 t12 (fun t13 w =>
  lnS t13 (fun t14 w =>
  s119_p3 K t1 t8 t13 t14 (.int .i64 0) w) w) w) w)) w) w) w) w) w) w
def s119_p4_den (K : Value → World → Prop) : (Nat → Value) → World → Prop := denL Tryz.prog [(cd (Tryz.f119.body.getD .skip) [0]), (cd (Tryz.f119.body.getD .skip) [1, 0]), (cd (Tryz.f119.body.getD .skip) [1, 1, 0, 0]), (cd (Tryz.f119.body.getD .skip) [1, 1, 0, 1]), (cd (Tryz.f119.body.getD .skip) [1, 1, 1, 0, 0])] (s119_p3_den K) (fun i => (fun _ _ => False)) (s119_R K)
theorem s119_p4_ok (K : Value → World → Prop) (s : Nat → Value) (w : World) (h : s119_p4 K (s 0) w) : Tr (s119_p4_den K s w) :=
  tr_simple (P := Tryz.prog) (codes := [(cd (Tryz.f119.body.getD .skip) [0]), (cd (Tryz.f119.body.getD .skip) [1, 0]), (cd (Tryz.f119.body.getD .skip) [1, 1, 0, 0]), (cd (Tryz.f119.body.getD .skip) [1, 1, 0, 1]), (cd (Tryz.f119.body.getD .skip) [1, 1, 1, 0, 0])]) (N := (fun s w => s119_p3 K (s 1) (s 3) (s 13) (s 14) (s 15) w)) (N' := (s119_p3_den K)) (X := (fun i => (fun _ _ => False))) (X' := (fun i => (fun _ _ => False))) (R := s119_R K) (s := s) (w := w) (p := s119_p4 K (s 0) w) (q := s119_p4_den K s w) (fun s w h => s119_p3_ok K s w @h) (fun i => tr_id) (by kernel_rfl) (by kernel_rfl) @h
/-- the call, from the text -/
theorem c119 (t0 : Value) {K : Value → World → Prop} {w : World} (h : s119_p4 K t0 w) : cl Tryz.prog 119 #[t0] K w :=
  calls_of_tr (c := (Tryz.f119.body.getD .skip)) (fn := Tryz.f119) (q := s119_p4_den K (st0 #[t0]) w) Tryz.func119 (by kernel_rfl) (by kernel_rfl) (Nat.le_of_ble_eq_true (by kernel_rfl)) (by kernel_rfl) (by kernel_rfl) (s119_p4_ok K (st0 #[t0]) w @h)

/-! ### function 165 : e2e.engine.inRange -/
def s165_R (K : Value → World → Prop) (s : Nat → Value) (w : World) : Prop := retv Tryz.prog s Tryz.f165.results.toList (fun vs => K (pack vs) w) w
def s165_p1 (K : Value → World → Prop) (t0 t1 t2 : Value) (w : World) : Prop :=
  boI .leq t1 t0 (fun t9 w =>
  gd t9 true (fun K w => K t0 w) (fun t11 w =>
  gd t9 true (fun K w => K t2 w) (fun t12 w =>
  gd t9 true (boI .leq t11 t12) (fun t13 w =>
  pk t9 t13 (.bool false) (fun t14 w =>
  K t14 w) w) w) w) w) w
def s165_p1_den (K : Value → World → Prop) : (Nat → Value) → World → Prop := denL Tryz.prog [(cd (Tryz.f165.body.getD .skip) [0]), (cd (Tryz.f165.body.getD .skip) [1, 0]), (cd (Tryz.f165.body.getD .skip) [1, 1])] (fun _ _ => False) (fun i => (fun _ _ => False)) (s165_R K)
theorem s165_p1_ok (K : Value → World → Prop) (s : Nat → Value) (w : World) (h : s165_p1 K (s 0) (s 1) (s 2) w) : Tr (s165_p1_den K s w) :=
  tr_simple (P := Tryz.prog) (codes := [(cd (Tryz.f165.body.getD .skip) [0]), (cd (Tryz.f165.body.getD .skip) [1, 0]), (cd (Tryz.f165.body.getD .skip) [1, 1])]) (N := (fun _ _ => False)) (N' := (fun _ _ => False)) (X := (fun i => (fun _ _ => False))) (X' := (fun i => (fun _ _ => False))) (R := s165_R K) (s := s) (w := w) (p := s165_p1 K (s 0) (s 1) (s 2) w) (q := s165_p1_den K s w) tr_id (fun i => tr_id) (by kernel_rfl) (by kernel_rfl) @h
/-- the call, from the text -/
theorem c165 (t0 t1 t2 : Value) {K : Value → World → Prop} {w : World} (h : s165_p1 K t0 t1 t2 w) : cl Tryz.prog 165 #[t0, t1, t2] K w :=
  calls_of_tr (c := (Tryz.f165.body.getD .skip)) (fn := Tryz.f165) (q := s165_p1_den K (st0 #[t0, t1, t2]) w) Tryz.func165 (by kernel_rfl) (by kernel_rfl) (Nat.le_of_ble_eq_true (by kernel_rfl)) (by kernel_rfl) (by kernel_rfl) (s165_p1_ok K (st0 #[t0, t1, t2]) w @h)

/-! ### function 166 : e2e.engine.validAttraction -/
def s166_R (K : Value → World → Prop) (s : Nat → Value) (w : World) : Prop := retv Tryz.prog s Tryz.f166.results.toList (fun vs => K (pack vs) w) w
def s166_p1 (K : Value → World → Prop) (w : World) : Prop :=
  K (.bool true) w
def s166_p1_den (K : Value → World → Prop) : (Nat → Value) → World → Prop := denL Tryz.prog [(cd (Tryz.f166.body.getD .skip) [1, 1, 1, 0]), (cd (Tryz.f166.body.getD .skip) [1, 1, 1, 1])] (fun _ _ => False) (fun i => (fun _ _ => False)) (s166_R K)
theorem s166_p1_ok (K : Value → World → Prop) (s : Nat → Value) (w : World) (h : s166_p1 K w) : Tr (s166_p1_den K s w) :=
  tr_simple (P := Tryz.prog) (codes := [(cd (Tryz.f166.body.getD .skip) [1, 1, 1, 0]), (cd (Tryz.f166.body.getD .skip) [1, 1, 1, 1])]) (N := (fun _ _ => False)) (N' := (fun _ _ => False)) (X := (fun i => (fun _ _ => False))) (X' := (fun i => (fun _ _ => False))) (R := s166_R K) (s := s) (w := w) (p := s166_p1 K w) (q := s166_p1_den K s w) tr_id (fun i => tr_id) (by kernel_rfl) (by kernel_rfl) @h
def s166_p2 (K : Value → World → Prop) (B1 : List Value → World → Prop) (t16 t17 : Value) (w : World) : Prop :=
  boI .lss t17 (.int .i64 3) (fun t18 w =>
  ifb t18
  (iv Tryz.prog 91 t16 t17 (fun t19 w =>
  cl Tryz.prog 165 #[t19, (.int .i64 0), (.int .i64 1073741824)] (fun t21 w =>
  un .not t21 (fun t22 w =>
  ifb t22
  (K (.bool false) w)
  (boI .add t17 (.int .i64 1) (fun t23 w =>
  B1 [t16, t23] w) w)) w) w) w)
  (s166_p1 K w)) w
def s166_p2_den (K : Value → World → Prop) (M1 : (Nat → Value) → World → Prop) : (Nat → Value) → World → Prop := denL Tryz.prog [(cd (Tryz.f166.body.getD .skip) [1, 1, 0, 1, 0, 0, 0]), (cd (Tryz.f166.body.getD .skip) [1, 1, 0, 1, 0, 0, 1, 0]), (cd (Tryz.f166.body.getD .skip) [1, 1, 0, 1, 0, 0, 1, 1, 0]), (cd (Tryz.f166.body.getD .skip) [1, 1, 0, 1, 0, 0, 1, 1, 1])] M1 (fun i => (bif Nat.beq i 0 then (s166_p1_den K) else (fun _ _ => False))) (s166_R K)
theorem s166_p2_ok (K : Value → World → Prop) (B1 : List Value → World → Prop) (s : Nat → Value) (w : World) (h : s166_p2 K B1 (s 16) (s 17) w) : Tr (s166_p2_den K (fun s w => B1 [s 16, s 17] w) s w) :=
  tr_simple (P := Tryz.prog) (codes := [(cd (Tryz.f166.body.getD .skip) [1, 1, 0, 1, 0, 0, 0]), (cd (Tryz.f166.body.getD .skip) [1, 1, 0, 1, 0, 0, 1, 0]), (cd (Tryz.f166.body.getD .skip) [1, 1, 0, 1, 0, 0, 1, 1, 0]), (cd (Tryz.f166.body.getD .skip) [1, 1, 0, 1, 0, 0, 1, 1, 1])]) (N := (fun s w => B1 [s 16, s 17] w)) (N' := (fun s w => B1 [s 16, s 17] w)) (X := (fun i => (bif Nat.beq i 0 then (fun s w => s166_p1 K w) else (fun _ _ => False)))) (X' := (fun i => (bif Nat.beq i 0 then (s166_p1_den K) else (fun _ _ => False)))) (R := s166_R K) (s := s) (w := w) (p := s166_p2 K B1 (s 16) (s 17) w) (q := s166_p2_den K (fun s w => B1 [s 16, s 17] w) s w) tr_id (fun i => (tr_bif (fun s w h => s166_p1_ok K s w @h) tr_id)) (by kernel_rfl) (by kernel_rfl) @h
def s166_p3_F (K : Value → World → Prop) (B1 : List Value → World → Prop) (l : List Value) (w : World) : Prop :=
  match l with
  | [t16, t17] => s166_p2 K B1 t16 t17 w
  | _ => False
theorem s166_p3_Fe {K : Value → World → Prop} {B1 : List Value → World → Prop} {t16 t17 : Value} {w : World} : s166_p3_F K B1 [t16, t17] w = s166_p2 K B1 t16 t17 w := by kernel_rfl
def s166_p3 (K : Value → World → Prop) (t16 t17 : Value) (w : World) : Prop :=
  LoopL (s166_p3_F K) [t16, t17] w
def s166_p3_den (K : Value → World → Prop) : (Nat → Value) → World → Prop := fun s w => LoopP (fun M1 s w => s166_p2_den K M1 s w) s w
theorem s166_p3_ok (K : Value → World → Prop) (s : Nat → Value) (w : World) (h : s166_p3 K (s 16) (s 17) w) : Tr (s166_p3_den K s w) :=
  tr_loop (G := fun N' s w => s166_p2_den K N' s w) (F := s166_p3_F K) (sel := fun s => [s 16, s 17]) (s := s) (w := w) (p := s166_p3 K (s 16) (s 17) w) (q := s166_p3_den K s w) (fun B s w h => s166_p2_ok K B s w @h) (by kernel_rfl) (by kernel_rfl) @h
def s166_p4 (K : Value → World → Prop) (t0 : Value) (w : World) : Prop :=
  nw 113 (t0).cells (fun t1 w =>
  fd 0 t1 (fun t5 w =>
  ld1 t5 (fun t6 w =>
  cl Tryz.prog 165 #[t6, (.int .i64 1), (.int .i64 1073741824)] (fun t7 w =>
  un .not t7 (fun t8 w =>
  gd t8 false (fd 1 t1) (fun t10 w =>
  gd t8 false (ld1 t10) (fun t11 w =>
  gd t8 false (cl Tryz.prog 165 #[t11, (.int .i64 1), (.int .i64 1048576)]) (fun t12 w =>
  gd t8 false (un .not t12) (fun t13 w =>
  pk t8 (.bool true) t13 (fun t14 w =>
  ifb t14
  (K (.bool false) w)
  (fd 2 t1 (fun t15 w =>
  ldn 3 t15 (fun t16 w =>
  s166_p3 K t16 (.int .i64 0) w) w) w)) w) w) w) w) w) w) w) w) w) w
def s166_p4_den (K : Value → World → Prop) : (Nat → Value) → World → Prop := denL Tryz.prog [(cd (Tryz.f166.body.getD .skip) [0]), (cd (Tryz.f166.body.getD .skip) [1, 0, 0]), (cd (Tryz.f166.body.getD .skip) [1, 0, 1]), (cd (Tryz.f166.body.getD .skip) [1, 1, 0, 0])] (s166_p3_den K) (fun i => (fun _ _ => False)) (s166_R K)
theorem s166_p4_ok (K : Value → World → Prop) (s : Nat → Value) (w : World) (h : s166_p4 K (s 0) w) : Tr (s166_p4_den K s w) :=
  tr_simple (P := Tryz.prog) (codes := [(cd (Tryz.f166.body.getD .skip) [0]), (cd (Tryz.f166.body.getD .skip) [1, 0, 0]), (cd (Tryz.f166.body.getD .skip) [1, 0, 1]), (cd (Tryz.f166.body.getD .skip) [1, 1, 0, 0])]) (N := (fun s w => s166_p3 K (s 16) (s 17) w)) (N' := (s166_p3_den K)) (X := (fun i => (fun _ _ => False))) (X' := (fun i => (fun _ _ => False))) (R := s166_R K) (s := s) (w := w) (p := s166_p4 K (s 0) w) (q := s166_p4_den K s w) (fun s w h => s166_p3_ok K s w @h) (fun i => tr_id) (by kernel_rfl) (by kernel_rfl) @h
/-- the call, from the text -/
theorem c166 (t0 : Value) {K : Value → World → Prop} {w : World} (h : s166_p4 K t0 w) : cl Tryz.prog 166 #[t0] K w :=
  calls_of_tr (c := (Tryz.f166.body.getD .skip)) (fn := Tryz.f166) (q := s166_p4_den K (st0 #[t0]) w) Tryz.func166 (by kernel_rfl) (by kernel_rfl) (Nat.le_of_ble_eq_true (by kernel_rfl)) (by kernel_rfl) (by kernel_rfl) (s166_p4_ok K (st0 #[t0]) w @h)

/-! ### function 167 : e2e.engine.validTransfer -/
def s167_R (K : Value → World → Prop) (s : Nat → Value) (w : World) : Prop := retv Tryz.prog s Tryz.f167.results.toList (fun vs => K (pack vs) w) w
def s167_p1 (K : Value → World → Prop) (w : World) : Prop :=
  K (.bool true) w
def s167_p1_den (K : Value → World → Prop) : (Nat → Value) → World → Prop := denL Tryz.prog [(cd (Tryz.f167.body.getD .skip) [1, 1, 1, 0]), (cd (Tryz.f167.body.getD .skip) [1, 1, 1, 1])] (fun _ _ => False) (fun i => (fun _ _ => False)) (s167_R K)
theorem s167_p1_ok (K : Value → World → Prop) (s : Nat → Value) (w : World) (h : s167_p1 K w) : Tr (s167_p1_den K s w) :=
  tr_simple (P := Tryz.prog) (codes := [(cd (Tryz.f167.body.getD .skip) [1, 1, 1, 0]), (cd (Tryz.f167.body.getD .skip) [1, 1, 1, 1])]) (N := (fun _ _ => False)) (N' := (fun _ _ => False)) (X := (fun i => (fun _ _ => False))) (X' := (fun i => (fun _ _ => False))) (R := s167_R K) (s := s) (w := w) (p := s167_p1 K w) (q := s167_p1_den K s w) tr_id (fun i => tr_id) (by kernel_rfl) (by kernel_rfl) @h
def s167_p2 (K : Value → World → Prop) (B1 : List Value → World → Prop) (t1 t13 t14 t15 : Value) (w : World) : Prop :=
  boI .add t15 (.int .i64 1) (fun t33 w =>
  B1 [t1, t13, t14, t33] w) w
def s167_p2_den (K : Value → World → Prop) (M1 : (Nat → Value) → World → Prop) : (Nat → Value) → World → Prop := denL Tryz.prog [(cd (Tryz.f167.body.getD .skip) [1, 1, 0, 1, 0, 0, 1, 1, 1])] M1 (fun i => (bif Nat.beq i 0 then (s167_p1_den K) else (fun _ _ => False))) (s167_R K)
theorem s167_p2_ok (K : Value → World → Prop) (B1 : List Value → World → Prop) (s : Nat → Value) (w : World) (h : s167_p2 K B1 (s 1) (s 13) (s 14) (s 15) w) : Tr (s167_p2_den K (fun s w => B1 [s 1, s 13, s 14, s 15] w) s w) :=
  tr_simple (P := Tryz.prog) (codes := [(cd (Tryz.f167.body.getD .skip) [1, 1, 0, 1, 0, 0, 1, 1, 1])]) (N := (fun s w => B1 [s 1, s 13, s 14, s 15] w)) (N' := (fun s w => B1 [s 1, s 13, s 14, s 15] w)) (X := (fun i => (bif Nat.beq i 0 then (fun s w => s167_p1 K w) else (fun _ _ => False)))) (X' := (fun i => (bif Nat.beq i 0 then (s167_p1_den K) else (fun _ _ => False)))) (R := s167_R K) (s := s) (w := w) (p := s167_p2 K B1 (s 1) (s 13) (s 14) (s 15) w) (q := s167_p2_den K (fun s w => B1 [s 1, s 13, s 14, s 15] w) s w) tr_id (fun i => (tr_bif (fun s w h => s167_p1_ok K s w @h) tr_id)) (by kernel_rfl) (by kernel_rfl) @h
def s167_p3 (K : Value → World → Prop) (B1 : List Value → World → Prop) (B2 : List Value → World → Prop) (t1 t13 t14 t15 t23 t24 t25 : Value) (w : World) : Prop :=
  boI .lss t25 t24 (fun t26 w =>
  ifb t26
  (ixs 1 t23 t25 (fun t27 w =>
  ld1 t27 (fun t28 w =>
  cl Tryz.prog 165 #[t28, (.int .i64 0), (.int .i64 1048576)] (fun t30 w =>
  un .not t30 (fun t31 w =>
  ifb t31
  (K (.bool false) w)
  (boI .add t25 (.int .i64 1) (fun t32 w =>
  B2 [t1, t13, t14, t15, t23, t24, t32] w) w)) w) w) w) w)
  (s167_p2 K B1 t1 t13 t14 t15 w)) w
def s167_p3_den (K : Value → World → Prop) (M1 : (Nat → Value) → World → Prop) (M2 : (Nat → Value) → World → Prop) : (Nat → Value) → World → Prop := denL Tryz.prog [(cd (Tryz.f167.body.getD .skip) [1, 1, 0, 1, 0, 0, 1, 1, 0, 0, 1, 1, 1, 0, 0, 0]), (cd (Tryz.f167.body.getD .skip) [1, 1, 0, 1, 0, 0, 1, 1, 0, 0, 1, 1, 1, 0, 0, 1, 0]), (cd (Tryz.f167.body.getD .skip) [1, 1, 0, 1, 0, 0, 1, 1, 0, 0, 1, 1, 1, 0, 0, 1, 1, 0]), (cd (Tryz.f167.body.getD .skip) [1, 1, 0, 1, 0, 0, 1, 1, 0, 0, 1, 1, 1, 0, 0, 1, 1, 1])] M2 (fun i => (bif Nat.beq i 2 then (s167_p2_den K M1) else (bif Nat.beq i 1 then (s167_p2_den K M1) else (bif Nat.beq i 0 then (s167_p1_den K) else (fun _ _ => False))))) (s167_R K)
theorem s167_p3_ok (K : Value → World → Prop) (B1 : List Value → World → Prop) (B2 : List Value → World → Prop) (s : Nat → Value) (w : World) (h : s167_p3 K B1 B2 (s 1) (s 13) (s 14) (s 15) (s 23) (s 24) (s 25) w) : Tr (s167_p3_den K (fun s w => B1 [s 1, s 13, s 14, s 15] w) (fun s w => B2 [s 1, s 13, s 14, s 15, s 23, s 24, s 25] w) s w) :=
  tr_simple (P := Tryz.prog) (codes := [(cd (Tryz.f167.body.getD .skip) [1, 1, 0, 1, 0, 0, 1, 1, 0, 0, 1, 1, 1, 0, 0, 0]), (cd (Tryz.f167.body.getD .skip) [1, 1, 0, 1, 0, 0, 1, 1, 0, 0, 1, 1, 1, 0, 0, 1, 0]), (cd (Tryz.f167.body.getD .skip) [1, 1, 0, 1, 0, 0, 1, 1, 0, 0, 1, 1, 1, 0, 0, 1, 1, 0]), (cd (Tryz.f167.body.getD .skip) [1, 1, 0, 1, 0, 0, 1, 1, 0, 0, 1, 1, 1, 0, 0, 1, 1, 1])]) (N := (fun s w => B2 [s 1, s 13, s 14, s 15, s 23, s 24, s 25] w)) (N' := (fun s w => B2 [s 1, s 13, s 14, s 15, s 23, s 24, s 25] w)) (X := (fun i => (bif Nat.beq i 2 then (fun s w => s167_p2 K B1 (s 1) (s 13) (s 14) (s 15) w) else (bif Nat.beq i 1 then (fun s w => s167_p2 K B1 (s 1) (s 13) (s 14) (s 15) w) else (bif Nat.beq i 0 then (fun s w => s167_p1 K w) else (fun _ _ => False)))))) (X' := (fun i => (bif Nat.beq i 2 then (s167_p2_den K (fun s w => B1 [s 1, s 13, s 14, s 15] w)) else (bif Nat.beq i 1 then (s167_p2_den K (fun s w => B1 [s 1, s 13, s 14, s 15] w)) else (bif Nat.beq i 0 then (s167_p1_den K) else (fun _ _ => False)))))) (R := s167_R K) (s := s) (w := w) (p := s167_p3 K B1 B2 (s 1) (s 13) (s 14) (s 15) (s 23) (s 24) (s 25) w) (q := s167_p3_den K (fun s w => B1 [s 1, s 13, s 14, s 15] w) (fun s w => B2 [s 1, s 13, s 14, s 15, s 23, s 24, s 25] w) s w) tr_id (fun i => (tr_bif (fun s w h => s167_p2_ok K B1 s w @h) (tr_bif (fun s w h => s167_p2_ok K B1 s w @h) (tr_bif (fun s w h => s167_p1_ok K s w @h) tr_id)))) (by kernel_rfl) (by kernel_rfl) @h
def s167_p4_F (K : Value → World → Prop) (B1 : List Value → World → Prop) (B2 : List Value → World → Prop) (l : List Value) (w : World) : Prop :=
  match l with
  | [t1, t13, t14, t15, t23, t24, t25] => s167_p3 K B1 B2 t1 t13 t14 t15 t23 t24 t25 w
  | _ => False
theorem s167_p4_Fe {K : Value → World → Prop} {B1 : List Value → World → Prop} {B2 : List Value → World → Prop} {t1 t13 t14 t15 t23 t24 t25 : Value} {w : World} : s167_p4_F K B1 B2 [t1, t13, t14, t15, t23, t24, t25] w = s167_p3 K B1 B2 t1 t13 t14 t15 t23 t24 t25 w := by kernel_rfl
def s167_p4 (K : Value → World → Prop) (B1 : List Value → World → Prop) (t1 t13 t14 t15 t23 t24 t25 : Value) (w : World) : Prop :=
  LoopL (s167_p4_F K B1) [t1, t13, t14, t15, t23, t24, t25] w
def s167_p4_den (K : Value → World → Prop) (M1 : (Nat → Value) → World → Prop) : (Nat → Value) → World → Prop := fun s w => LoopP (fun M2 s w => s167_p3_den K M1 M2 s w) s w
theorem s167_p4_ok (K : Value → World → Prop) (B1 : List Value → World → Prop) (s : Nat → Value) (w : World) (h : s167_p4 K B1 (s 1) (s 13) (s 14) (s 15) (s 23) (s 24) (s 25) w) : Tr (s167_p4_den K (fun s w => B1 [s 1, s 13, s 14, s 15] w) s w) :=
  tr_loop (G := fun N' s w => s167_p3_den K (fun s w => B1 [s 1, s 13, s 14, s 15] w) N' s w) (F := s167_p4_F K B1) (sel := fun s => [s 1, s 13, s 14, s 15, s 23, s 24, s 25]) (s := s) (w := w) (p := s167_p4 K B1 (s 1) (s 13) (s 14) (s 15) (s 23) (s 24) (s 25) w) (q := s167_p4_den K (fun s w => B1 [s 1, s 13, s 14, s 15] w) s w) (fun B s w h => s167_p3_ok K B1 B s w @h) (by kernel_rfl) (by kernel_rfl) @h
def s167_p5 (K : Value → World → Prop) (B1 : List Value → World → Prop) (t1 t13 t14 t15 : Value) (w : World) : Prop :=
  ixs 1 t13 t15 (fun t17 w =>
  ld1 t17 (fun t18 w =>
  lnS t18 (fun t20 w =>
  boI .neq t20 t1 (fun t22 w =>
  ifb t22
  (K (.bool false) w)
  (lnS t18 (fun t24 w =>
  s167_p4 K B1 t1 t13 t14 t15 t18 t24 (.int .i64 0) w) w)) w) w) w) w
def s167_p5_den (K : Value → World → Prop) (M1 : (Nat → Value) → World → Prop) : (Nat → Value) → World → Prop := denL Tryz.prog [(cd (Tryz.f167.body.getD .skip) [1, 1, 0, 1, 0, 0, 1, 1, 0, 0, 0]), (cd (Tryz.f167.body.getD .skip) [1, 1, 0, 1, 0, 0, 1, 1, 0, 0, 1, 0, 0]), (cd (Tryz.f167.body.getD .skip) [1, 1, 0, 1, 0, 0, 1, 1, 0, 0, 1, 0, 1]), (cd (Tryz.f167.body.getD .skip) [1, 1, 0, 1, 0, 0, 1, 1, 0, 0, 1, 1, 0])] (s167_p4_den K M1) (fun i => (bif Nat.beq i 1 then (s167_p2_den K M1) else (bif Nat.beq i 0 then (s167_p1_den K) else (fun _ _ => False)))) (s167_R K)
theorem s167_p5_ok (K : Value → World → Prop) (B1 : List Value → World → Prop) (s : Nat → Value) (w : World) (h : s167_p5 K B1 (s 1) (s 13) (s 14) (s 15) w) : Tr (s167_p5_den K (fun s w => B1 [s 1, s 13, s 14, s 15] w) s w) :=
  tr_simple (P := Tryz.prog) (codes := [(cd (Tryz.f167.body.getD .skip) [1, 1, 0, 1, 0, 0, 1, 1, 0, 0, 0]), (cd (Tryz.f167.body.getD .skip) [1, 1, 0, 1, 0, 0, 1, 1, 0, 0, 1, 0, 0]), (cd (Tryz.f167.body.getD .skip) [1, 1, 0, 1, 0, 0, 1, 1, 0, 0, 1, 0, 1]), (cd (Tryz.f167.body.getD .skip) [1, 1, 0, 1, 0, 0, 1, 1, 0, 0, 1, 1, 0])]) (N := (fun s w => s167_p4 K B1 (s 1) (s 13) (s 14) (s 15) (s 23) (s 24) (s 25) w)) (N' := (s167_p4_den K (fun s w => B1 [s 1, s 13, s 14, s 15] w))) (X := (fun i => (bif Nat.beq i 1 then (fun s w => s167_p2 K B1 (s 1) (s 13) (s 14) (s 15) w) else (bif Nat.beq i 0 then (fun s w => s167_p1 K w) else (fun _ _ => False))))) (X' := (fun i => (bif Nat.beq i 1 then (s167_p2_den K (fun s w => B1 [s 1, s 13, s 14, s 15] w)) else (bif Nat.beq i 0 then (s167_p1_den K) else (fun _ _ => False))))) (R := s167_R K) (s := s) (w := w) (p := s167_p5 K B1 (s 1) (s 13) (s 14) (s 15) w) (q := s167_p5_den K (fun s w => B1 [s 1, s 13, s 14, s 15] w) s w) (fun s w h => s167_p4_ok K B1 s w @h) (fun i => (tr_bif (fun s w h => s167_p2_ok K B1 s w @h) (tr_bif (fun s w h => s167_p1_ok K s w @h) tr_id))) (by kernel_rfl) (by kernel_rfl) @h
def s167_p6 (K : Value → World → Prop) (B1 : List Value → World → Prop) (t1 t13 t14 t15 : Value) (w : World) : Prop :=
  boI .lss t15 t14 (fun t16 w =>
  ifb t16
  (s167_p5 K B1 t1 t13 t14 t15 w)
  (s167_p1 K w)) w
def s167_p6_den (K : Value → World → Prop) (M1 : (Nat → Value) → World → Prop) : (Nat → Value) → World → Prop := denL Tryz.prog [(cd (Tryz.f167.body.getD .skip) [1, 1, 0, 1, 0, 0, 0]), (cd (Tryz.f167.body.getD .skip) [1, 1, 0, 1, 0, 0, 1, 0])] (s167_p5_den K M1) (fun i => (bif Nat.beq i 0 then (s167_p1_den K) else (fun _ _ => False))) (s167_R K)
theorem s167_p6_ok (K : Value → World → Prop) (B1 : List Value → World → Prop) (s : Nat → Value) (w : World) (h : s167_p6 K B1 (s 1) (s 13) (s 14) (s 15) w) : Tr (s167_p6_den K (fun s w => B1 [s 1, s 13, s 14, s 15] w) s w) :=
  tr_simple (P := Tryz.prog) (codes := [(cd (Tryz.f167.body.getD .skip) [1, 1, 0, 1, 0, 0, 0]), (cd (Tryz.f167.body.getD .skip) [1, 1, 0, 1, 0, 0, 1, 0])]) (N := (fun s w => s167_p5 K B1 (s 1) (s 13) (s 14) (s 15) w)) (N' := (s167_p5_den K (fun s w => B1 [s 1, s 13, s 14, s 15] w))) (X := (fun i => (bif Nat.beq i 0 then (fun s w => s167_p1 K w) else (fun _ _ => False)))) (X' := (fun i => (bif Nat.beq i 0 then (s167_p1_den K) else (fun _ _ => False)))) (R := s167_R K) (s := s) (w := w) (p := s167_p6 K B1 (s 1) (s 13) (s 14) (s 15) w) (q := s167_p6_den K (fun s w => B1 [s 1, s 13, s 14, s 15] w) s w) (fun s w h => s167_p5_ok K B1 s w @h) (fun i => (tr_bif (fun s w h => s167_p1_ok K s w @h) tr_id)) (by kernel_rfl) (by kernel_rfl) @h
def s167_p7_F (K : Value → World → Prop) (B1 : List Value → World → Prop) (l : List Value) (w : World) : Prop :=
  match l with
  | [t1, t13, t14, t15] => s167_p6 K B1 t1 t13 t14 t15 w
  | _ => False
theorem s167_p7_Fe {K : Value → World → Prop} {B1 : List Value → World → Prop} {t1 t13 t14 t15 : Value} {w : World} : s167_p7_F K B1 [t1, t13, t14, t15] w = s167_p6 K B1 t1 t13 t14 t15 w := by kernel_rfl
def s167_p7 (K : Value → World → Prop) (t1 t13 t14 t15 : Value) (w : World) : Prop :=
  LoopL (s167_p7_F K) [t1, t13, t14, t15] w
def s167_p7_den (K : Value → World → Prop) : (Nat → Value) → World → Prop := fun s w => LoopP (fun M1 s w => s167_p6_den K M1 s w) s w
theorem s167_p7_ok (K : Value → World → Prop) (s : Nat → Value) (w : World) (h : s167_p7 K (s 1) (s 13) (s 14) (s 15) w) : Tr (s167_p7_den K s w) :=
  tr_loop (G := fun N' s w => s167_p6_den K N' s w) (F := s167_p7_F K) (sel := fun s => [s 1, s 13, s 14, s 15]) (s := s) (w := w) (p := s167_p7 K (s 1) (s 13) (s 14) (s 15) w) (q := s167_p7_den K s w) (fun B s w h => s167_p6_ok K B s w @h) (by kernel_rfl) (by kernel_rfl) @h
def s167_p8 (K : Value → World → Prop) (t0 t1 : Value) (w : World) : Prop :=
  lnS t0 (fun t10 w =>
  boI .neq t10 t1 (fun t12 w =>
  ifb t12
  (K (.bool false) w)
  (lnS t0 (fun t14 w =>
  s167_p7 K t1 t0 t14 (.int .i64 0) w) w)) w) w
def s167_p8_den (K : Value → World → Prop) : (Nat → Value) → World → Prop := denL Tryz.prog [(cd (Tryz.f167.body.getD .skip) [0]), (cd (Tryz.f167.body.getD .skip) [1, 0, 0]), (cd (Tryz.f167.body.getD .skip) [1, 0, 1]), (cd (Tryz.f167.body.getD .skip) [1, 1, 0, 0])] (s167_p7_den K) (fun i => (fun _ _ => False)) (s167_R K)
theorem s167_p8_ok (K : Value → World → Prop) (s : Nat → Value) (w : World) (h : s167_p8 K (s 0) (s 1) w) : Tr (s167_p8_den K s w) :=
  tr_simple (P := Tryz.prog) (codes := [(cd (Tryz.f167.body.getD .skip) [0]), (cd (Tryz.f167.body.getD .skip) [1, 0, 0]), (cd (Tryz.f167.body.getD .skip) [1, 0, 1]), (cd (Tryz.f167.body.getD .skip) [1, 1, 0, 0])]) (N := (fun s w => s167_p7 K (s 1) (s 13) (s 14) (s 15) w)) (N' := (s167_p7_den K)) (X := (fun i => (fun _ _ => False))) (X' := (fun i => (fun _ _ => False))) (R := s167_R K) (s := s) (w := w) (p := s167_p8 K (s 0) (s 1) w) (q := s167_p8_den K s w) (fun s w h => s167_p7_ok K s w @h) (fun i => tr_id) (by kernel_rfl) (by kernel_rfl) @h
/-- the call, from the text -/
theorem c167 (t0 t1 : Value) {K : Value → World → Prop} {w : World} (h : s167_p8 K t0 t1 w) : cl Tryz.prog 167 #[t0, t1] K w :=
  calls_of_tr (c := (Tryz.f167.body.getD .skip)) (fn := Tryz.f167) (q := s167_p8_den K (st0 #[t0, t1]) w) Tryz.func167 (by kernel_rfl) (by kernel_rfl) (Nat.le_of_ble_eq_true (by kernel_rfl)) (by kernel_rfl) (by kernel_rfl) (s167_p8_ok K (st0 #[t0, t1]) w @h)

/-! ### function 169 : e2e.engine.copyConfig -/
def s169_R (K : Value → World → Prop) (s : Nat → Value) (w : World) : Prop := retv Tryz.prog s Tryz.f169.results.toList (fun vs => K (pack vs) w) w
def s169_p1 (K : Value → World → Prop) (t2 t3 : Value) (w : World) : Prop :=
  ldn 14 t3 (fun t31 w =>
  stn 14 t2 t31 (fun w =>
  ldn 14 t2 (fun r0 _ =>
  K r0 w) w) w) w
def s169_p1_den (K : Value → World → Prop) : (Nat → Value) → World → Prop := denL Tryz.prog [(cd (Tryz.f169.body.getD .skip) [1, 1, 1, 1, 1, 0]), (cd (Tryz.f169.body.getD .skip) [1, 1, 1, 1, 1, 1])] (fun _ _ => False) (fun i => (fun _ _ => False)) (s169_R K)
theorem s169_p1_ok (K : Value → World → Prop) (s : Nat → Value) (w : World) (h : s169_p1 K (s 2) (s 3) w) : Tr (s169_p1_den K s w) :=
  tr_simple (P := Tryz.prog) (codes := [(cd (Tryz.f169.body.getD .skip) [1, 1, 1, 1, 1, 0]), (cd (Tryz.f169.body.getD .skip) [1, 1, 1, 1, 1, 1])]) (N := (fun _ _ => False)) (N' := (fun _ _ => False)) (X := (fun i => (fun _ _ => False))) (X' := (fun i => (fun _ _ => False))) (R := s169_R K) (s := s) (w := w) (p := s169_p1 K (s 2) (s 3) w) (q := s169_p1_den K s w) tr_id (fun i => tr_id) (by kernel_rfl) (by kernel_rfl) @h
def s169_p2 (K : Value → World → Prop) (B1 : List Value → World → Prop) (t2 t3 t17 t18 t19 : Value) (w : World) : Prop :=
  boI .add t19 (.int .i64 1) (fun t30 w =>
  B1 [t2, t3, t17, t18, t30] w) w
def s169_p2_den (K : Value → World → Prop) (M1 : (Nat → Value) → World → Prop) : (Nat → Value) → World → Prop := denL Tryz.prog [(cd (Tryz.f169.body.getD .skip) [1, 1, 1, 1, 0, 1, 0, 0, 1, 1, 1])] M1 (fun i => (bif Nat.beq i 0 then (s169_p1_den K) else (fun _ _ => False))) (s169_R K)
theorem s169_p2_ok (K : Value → World → Prop) (B1 : List Value → World → Prop) (s : Nat → Value) (w : World) (h : s169_p2 K B1 (s 2) (s 3) (s 17) (s 18) (s 19) w) : Tr (s169_p2_den K (fun s w => B1 [s 2, s 3, s 17, s 18, s 19] w) s w) :=
  tr_simple (P := Tryz.prog) (codes := [(cd (Tryz.f169.body.getD .skip) [1, 1, 1, 1, 0, 1, 0, 0, 1, 1, 1])]) (N := (fun s w => B1 [s 2, s 3, s 17, s 18, s 19] w)) (N' := (fun s w => B1 [s 2, s 3, s 17, s 18, s 19] w)) (X := (fun i => (bif Nat.beq i 0 then (fun s w => s169_p1 K (s 2) (s 3) w) else (fun _ _ => False)))) (X' := (fun i => (bif Nat.beq i 0 then (s169_p1_den K) else (fun _ _ => False)))) (R := s169_R K) (s := s) (w := w) (p := s169_p2 K B1 (s 2) (s 3) (s 17) (s 18) (s 19) w) (q := s169_p2_den K (fun s w => B1 [s 2, s 3, s 17, s 18, s 19] w) s w) tr_id (fun i => (tr_bif (fun s w h => s169_p1_ok K s w @h) tr_id)) (by kernel_rfl) (by kernel_rfl) @h
def s169_p3_d (K : Value → World → Prop) (B1 : List Value → World → Prop) (t2 t3 t4 t5 t17 t18 t19 : Value) (w0 w : World) : Prop :=
  fd 1 t3 (fun t24 _ =>
  ld1 t24 (fun t25 _ =>
  ixs 1 t25 t4 (fun t29 _ =>
  apq 3 [(.int .i64 0)] 8 (.slice none 0 0) t5 (fun t28 w =>
  Below w0.heap.size w0 w ∧
  st1 t29 t28 (fun w =>
  s169_p2 K B1 t2 t3 t17 t18 t19 w) w) w) w0) w0) w0
def s169_p3 (K : Value → World → Prop) (B1 : List Value → World → Prop) (t2 t3 t4 t5 t17 t18 t19 : Value) (w : World) : Prop := s169_p3_d K B1 t2 t3 t4 t5 t17 t18 t19 (drw w) (drw w)
def s169_p3_den (K : Value → World → Prop) (M1 : (Nat → Value) → World → Prop) : (Nat → Value) → World → Prop := denL Tryz.prog [(cd (Tryz.f169.body.getD .skip) [1, 1, 1, 1, 0, 1, 0, 0, 1, 1, 0, 0, 1])] (s169_p2_den K M1) (fun i => (bif Nat.beq i 1 then (s169_p2_den K M1) else (bif Nat.beq i 0 then (s169_p1_den K) else (fun _ _ => False)))) (s169_R K)
theorem s169_p3_ok (K : Value → World → Prop) (B1 : List Value → World → Prop) (s : Nat → Value) (w : World) (h : s169_p3 K B1 (s 2) (s 3) (s 4) (s 5) (s 17) (s 18) (s 19) w) : Tr (s169_p3_den K (fun s w => B1 [s 2, s 3, s 17, s 18, s 19] w) s w) :=
  tr_draw (P := Tryz.prog) (ops := (ro (cd (Tryz.f169.body.getD .skip) [1, 1, 1, 1, 0, 1, 0, 0, 1, 1, 0, 0, 1]))) (ms := [0, 1, 0, 0, 8, 31, 63]) (cs := [0, 1, 2, 3, 5]) (N := (fun s w => s169_p2 K B1 (s 2) (s 3) (s 17) (s 18) (s 19) w)) (N' := (s169_p2_den K (fun s w => B1 [s 2, s 3, s 17, s 18, s 19] w))) (s := s) (w := w) (p := s169_p3 K B1 (s 2) (s 3) (s 4) (s 5) (s 17) (s 18) (s 19) w) (q := s169_p3_den K (fun s w => B1 [s 2, s 3, s 17, s 18, s 19] w) s w) (by kernel_rfl) (by kernel_rfl) (fun s w h => s169_p2_ok K B1 s w @h) (by kernel_rfl) (by kernel_rfl) @h
def s169_p4 (K : Value → World → Prop) (B1 : List Value → World → Prop) (t2 t3 t17 t18 t19 : Value) (w : World) : Prop :=
  ixs 1 t17 t19 (fun t22 w =>
  ld1 t22 (fun t23 w =>
  s169_p3 K B1 t2 t3 t19 t23 t17 t18 t19 w) w) w
def s169_p4_den (K : Value → World → Prop) (M1 : (Nat → Value) → World → Prop) : (Nat → Value) → World → Prop := denL Tryz.prog [(cd (Tryz.f169.body.getD .skip) [1, 1, 1, 1, 0, 1, 0, 0, 1, 1, 0, 0, 0])] (s169_p3_den K M1) (fun i => (bif Nat.beq i 1 then (s169_p2_den K M1) else (bif Nat.beq i 0 then (s169_p1_den K) else (fun _ _ => False)))) (s169_R K)
theorem s169_p4_ok (K : Value → World → Prop) (B1 : List Value → World → Prop) (s : Nat → Value) (w : World) (h : s169_p4 K B1 (s 2) (s 3) (s 17) (s 18) (s 19) w) : Tr (s169_p4_den K (fun s w => B1 [s 2, s 3, s 17, s 18, s 19] w) s w) :=
  tr_simple (P := Tryz.prog) (codes := [(cd (Tryz.f169.body.getD .skip) [1, 1, 1, 1, 0, 1, 0, 0, 1, 1, 0, 0, 0])]) (N := (fun s w => s169_p3 K B1 (s 2) (s 3) (s 4) (s 5) (s 17) (s 18) (s 19) w)) (N' := (s169_p3_den K (fun s w => B1 [s 2, s 3, s 17, s 18, s 19] w))) (X := (fun i => (bif Nat.beq i 1 then (fun s w => s169_p2 K B1 (s 2) (s 3) (s 17) (s 18) (s 19) w) else (bif Nat.beq i 0 then (fun s w => s169_p1 K (s 2) (s 3) w) else (fun _ _ => False))))) (X' := (fun i => (bif Nat.beq i 1 then (s169_p2_den K (fun s w => B1 [s 2, s 3, s 17, s 18, s 19] w)) else (bif Nat.beq i 0 then (s169_p1_den K) else (fun _ _ => False))))) (R := s169_R K) (s := s) (w := w) (p := s169_p4 K B1 (s 2) (s 3) (s 17) (s 18) (s 19) w) (q := s169_p4_den K (fun s w => B1 [s 2, s 3, s 17, s 18, s 19] w) s w) (fun s w h => s169_p3_ok K B1 s w @h) (fun i => (tr_bif (fun s w h => s169_p2_ok K B1 s w @h) (tr_bif (fun s w h => s169_p1_ok K s w @h) tr_id))) (by kernel_rfl) (by kernel_rfl) @h
def s169_p5 (K : Value → World → Prop) (B1 : List Value → World → Prop) (t2 t3 t17 t18 t19 : Value) (w : World) : Prop :=
  boI .lss t19 t18 (fun t20 w =>
  ifb t20
  (s169_p4 K B1 t2 t3 t17 t18 t19 w)
  (s169_p1 K t2 t3 w)) w
def s169_p5_den (K : Value → World → Prop) (M1 : (Nat → Value) → World → Prop) : (Nat → Value) → World → Prop := denL Tryz.prog [(cd (Tryz.f169.body.getD .skip) [1, 1, 1, 1, 0, 1, 0, 0, 0]), (cd (Tryz.f169.body.getD .skip) [1, 1, 1, 1, 0, 1, 0, 0, 1, 0])] (s169_p4_den K M1) (fun i => (bif Nat.beq i 0 then (s169_p1_den K) else (fun _ _ => False))) (s169_R K)
theorem s169_p5_ok (K : Value → World → Prop) (B1 : List Value → World → Prop) (s : Nat → Value) (w : World) (h : s169_p5 K B1 (s 2) (s 3) (s 17) (s 18) (s 19) w) : Tr (s169_p5_den K (fun s w => B1 [s 2, s 3, s 17, s 18, s 19] w) s w) :=
  tr_simple (P := Tryz.prog) (codes := [(cd (Tryz.f169.body.getD .skip) [1, 1, 1, 1, 0, 1, 0, 0, 0]), (cd (Tryz.f169.body.getD .skip) [1, 1, 1, 1, 0, 1, 0, 0, 1, 0])]) (N := (fun s w => s169_p4 K B1 (s 2) (s 3) (s 17) (s 18) (s 19) w)) (N' := (s169_p4_den K (fun s w => B1 [s 2, s 3, s 17, s 18, s 19] w))) (X := (fun i => (bif Nat.beq i 0 then (fun s w => s169_p1 K (s 2) (s 3) w) else (fun _ _ => False)))) (X' := (fun i => (bif Nat.beq i 0 then (s169_p1_den K) else (fun _ _ => False)))) (R := s169_R K) (s := s) (w := w) (p := s169_p5 K B1 (s 2) (s 3) (s 17) (s 18) (s 19) w) (q := s169_p5_den K (fun s w => B1 [s 2, s 3, s 17, s 18, s 19] w) s w) (fun s w h => s169_p4_ok K B1 s w @h) (fun i => (tr_bif (fun s w h => s169_p1_ok K s w @h) tr_id)) (by kernel_rfl) (by kernel_rfl) @h
def s169_p6_F (K : Value → World → Prop) (B1 : List Value → World → Prop) (l : List Value) (w : World) : Prop :=
  match l with
  | [t2, t3, t17, t18, t19] => s169_p5 K B1 t2 t3 t17 t18 t19 w
  | _ => False
theorem s169_p6_Fe {K : Value → World → Prop} {B1 : List Value → World → Prop} {t2 t3 t17 t18 t19 : Value} {w : World} : s169_p6_F K B1 [t2, t3, t17, t18, t19] w = s169_p5 K B1 t2 t3 t17 t18 t19 w := by kernel_rfl
def s169_p6 (K : Value → World → Prop) (t2 t3 t17 t18 t19 : Value) (w : World) : Prop :=
  LoopL (s169_p6_F K) [t2, t3, t17, t18, t19] w
def s169_p6_den (K : Value → World → Prop) : (Nat → Value) → World → Prop := fun s w => LoopP (fun M1 s w => s169_p5_den K M1 s w) s w
theorem s169_p6_ok (K : Value → World → Prop) (s : Nat → Value) (w : World) (h : s169_p6 K (s 2) (s 3) (s 17) (s 18) (s 19) w) : Tr (s169_p6_den K s w) :=
  tr_loop (G := fun N' s w => s169_p5_den K N' s w) (F := s169_p6_F K) (sel := fun s => [s 2, s 3, s 17, s 18, s 19]) (s := s) (w := w) (p := s169_p6 K (s 2) (s 3) (s 17) (s 18) (s 19) w) (q := s169_p6_den K s w) (fun B s w h => s169_p5_ok K B s w @h) (by kernel_rfl) (by kernel_rfl) @h
def s169_p7 (K : Value → World → Prop) (t0 : Value) (w : World) : Prop :=
  nw 34 (t0).cells (fun t1 w =>
  nw 34 #[(.slice none 0 0), (.slice none 0 0), (.int .i64 0), (.int .i64 0), (.int .i64 0), (.int .i64 0), (.int .i64 0), (.int .i64 0), (.int .i64 0), (.int .i64 0), (.int .i64 0), (.int .i64 0), (.int .i64 0), (.int .i64 0)] (fun t2 w =>
  ldn 14 t1 (fun t6 w =>
  nw 34 #[(.slice none 0 0), (.slice none 0 0), (.int .i64 0), (.int .i64 0), (.int .i64 0), (.int .i64 0), (.int .i64 0), (.int .i64 0), (.int .i64 0), (.int .i64 0), (.int .i64 0), (.int .i64 0), (.int .i64 0), (.int .i64 0)] (fun t3 w =>
  stn 14 t3 t6 (fun w =>
  fd 0 t1 (fun t7 w =>
  ld1 t7 (fun t8 w =>
  apq 113 [(.int .i64 0), (.int .i64 0), (.int .i64 0), (.int .i64 0), (.int .i64 0)] 40 (.slice none 0 0) t8 (fun t9 w =>
  fd 0 t3 (fun t10 w =>
  st1 t10 t9 (fun w =>
  fd 1 t1 (fun t11 w =>
  ld1 t11 (fun t12 w =>
  lnS t12 (fun t13 w =>
  mks 79 [(.slice none 0 0)] 24 t13 t13 (fun t14 w =>
  fd 1 t3 (fun t15 w =>
  st1 t15 t14 (fun w =>
  fd 1 t1 (fun t16 w =>
  ld1 t16 (fun t17 w =>
  lnS t17 (fun t18 w =>
  s169_p6 K t2 t3 t17 t18 (.int .i64 0) w) w) w) w) w) w) w) w) w) w) w) w) w) w) w) w) w) w) w) w
def s169_p7_den (K : Value → World → Prop) : (Nat → Value) → World → Prop := denL Tryz.prog [(cd (Tryz.f169.body.getD .skip) [0]), (cd (Tryz.f169.body.getD .skip) [1, 0]), (cd (Tryz.f169.body.getD .skip) [1, 1, 0]), (cd (Tryz.f169.body.getD .skip) [1, 1, 1, 0]), (cd (Tryz.f169.body.getD .skip) [1, 1, 1, 1, 0, 0])] (s169_p6_den K) (fun i => (fun _ _ => False)) (s169_R K)
theorem s169_p7_ok (K : Value → World → Prop) (s : Nat → Value) (w : World) (h : s169_p7 K (s 0) w) : Tr (s169_p7_den K s w) :=
  tr_simple (P := Tryz.prog) (codes := [(cd (Tryz.f169.body.getD .skip) [0]), (cd (Tryz.f169.body.getD .skip) [1, 0]), (cd (Tryz.f169.body.getD .skip) [1, 1, 0]), (cd (Tryz.f169.body.getD .skip) [1, 1, 1, 0]), (cd (Tryz.f169.body.getD .skip) [1, 1, 1, 1, 0, 0])]) (N := (fun s w => s169_p6 K (s 2) (s 3) (s 17) (s 18) (s 19) w)) (N' := (s169_p6_den K)) (X := (fun i => (fun _ _ => False))) (X' := (fun i => (fun _ _ => False))) (R := s169_R K) (s := s) (w := w) (p := s169_p7 K (s 0) w) (q := s169_p7_den K s w) (fun s w h => s169_p6_ok K s w @h) (fun i => tr_id) (by kernel_rfl) (by kernel_rfl) @h
/-- the call, from the text -/
theorem c169 (t0 : Value) {K : Value → World → Prop} {w : World} (h : s169_p7 K t0 w) : cl Tryz.prog 169 #[t0] K w :=
  calls_of_tr (c := (Tryz.f169.body.getD .skip)) (fn := Tryz.f169) (q := s169_p7_den K (st0 #[t0]) w) Tryz.func169 (by kernel_rfl) (by kernel_rfl) (Nat.le_of_ble_eq_true (by kernel_rfl)) (by kernel_rfl) (by kernel_rfl) (s169_p7_ok K (st0 #[t0]) w @h)

/-! ### function 121 : e2e.engine.blank -/
def s121_R (K : Value → World → Prop) (s : Nat → Value) (w : World) : Prop := retv Tryz.prog s Tryz.f121.results.toList (fun vs => K (pack vs) w) w
def s121_p1 (K : Value → World → Prop) (t4 : Value) (w : World) : Prop :=
  K t4 w
def s121_p1_den (K : Value → World → Prop) : (Nat → Value) → World → Prop := denL Tryz.prog [(cd (Tryz.f121.body.getD .skip) [1, 1, 1])] (fun _ _ => False) (fun i => (fun _ _ => False)) (s121_R K)
theorem s121_p1_ok (K : Value → World → Prop) (s : Nat → Value) (w : World) (h : s121_p1 K (s 4) w) : Tr (s121_p1_den K s w) :=
  tr_simple (P := Tryz.prog) (codes := [(cd (Tryz.f121.body.getD .skip) [1, 1, 1])]) (N := (fun _ _ => False)) (N' := (fun _ _ => False)) (X := (fun i => (fun _ _ => False))) (X' := (fun i => (fun _ _ => False))) (R := s121_R K) (s := s) (w := w) (p := s121_p1 K (s 4) w) (q := s121_p1_den K s w) tr_id (fun i => tr_id) (by kernel_rfl) (by kernel_rfl) @h
def s121_p2_d (K : Value → World → Prop) (t1 t2 : Value) (w0 w : World) : Prop :=
  ldn 14 t2 (fun t7 _ =>
  ldn 14 t2 (fun t8 _ =>
  ldn 14 t2 (fun t10 _ =>
  cl Tryz.prog 170 #[t8] (fun t9 w =>
  Below w0.heap.size w0 w ∧
  cl Tryz.prog 171 #[t10] (fun t11 w =>
  Below w0.heap.size w0 w ∧
  bdq [(.slice none 0 0), (.slice none 0 0), (.int .i64 0), (.int .i64 0), (.int .i64 0), (.int .i64 0), (.int .i64 0), (.int .i64 0), (.int .i64 0), (.int .i64 0), (.int .i64 0), (.int .i64 0), (.int .i64 0), (.int .i64 0), (.int .i64 0), (.pointer none), (.pointer none), (.pointer none), (.int .i64 0), (.int .i64 0), (.int .i64 0), (.bool false), (.int .i64 0), (.int .i64 0), (.int .i64 0), (.int .i64 0), (.int .i64 0), (.bool false), (.int .i64 0), (.int .i64 0), (.int .i64 0), (.int .i64 0), (.int .i64 0), (.int .i64 0), (.int .i64 0), (.int .i64 0), (.int .i64 0), (.int .i64 0), (.int .i64 0), (.int .i64 0), (.int .i64 0), (.int .i64 0), (.int .i64 0), (.int .i64 0), (.int .i64 0), (.int .i64 0), (.int .i64 0), (.int .i64 0), (.int .i64 0), (.int .i64 0), (.int .i64 0), (.slice none 0 0)] [(some (0, 14), t7), (some (15, 1), t9), (some (16, 1), t11), (some (17, 1), t1)] (fun t13 w =>
  nw 137 (t13).cells (fun t14 w =>
  s121_p1 K t14 w) w) w) w) w) w0) w0) w0
def s121_p2 (K : Value → World → Prop) (t1 t2 : Value) (w : World) : Prop := s121_p2_d K t1 t2 (drw w) (drw w)
def s121_p2_den (K : Value → World → Prop) : (Nat → Value) → World → Prop := denL Tryz.prog [(cd (Tryz.f121.body.getD .skip) [1, 1, 0])] (s121_p1_den K) (fun i => (fun _ _ => False)) (s121_R K)
theorem s121_p2_ok (K : Value → World → Prop) (s : Nat → Value) (w : World) (h : s121_p2 K (s 1) (s 2) w) : Tr (s121_p2_den K s w) :=
  tr_draw (P := Tryz.prog) (ops := (ro (cd (Tryz.f121.body.getD .skip) [1, 1, 0]))) (ms := [0, 0, 2, 0, 14, 0, 63, 127, 255]) (cs := [0, 1, 3, 5]) (N := (fun s w => s121_p1 K (s 4) w)) (N' := (s121_p1_den K)) (s := s) (w := w) (p := s121_p2 K (s 1) (s 2) w) (q := s121_p2_den K s w) (by kernel_rfl) (by kernel_rfl) (fun s w h => s121_p1_ok K s w @h) (by kernel_rfl) (by kernel_rfl) @h
def s121_p3 (K : Value → World → Prop) (t0 t1 : Value) (w : World) : Prop :=
  nw 34 (t0).cells (fun t2 w =>
  ldn 14 t2 (fun t5 w =>
  cl Tryz.prog 169 #[t5] (fun t6 w =>
  stn 14 t2 t6 (fun w =>
  s121_p2 K t1 t2 w) w) w) w) w
def s121_p3_den (K : Value → World → Prop) : (Nat → Value) → World → Prop := denL Tryz.prog [(cd (Tryz.f121.body.getD .skip) [0]), (cd (Tryz.f121.body.getD .skip) [1, 0])] (s121_p2_den K) (fun i => (fun _ _ => False)) (s121_R K)
theorem s121_p3_ok (K : Value → World → Prop) (s : Nat → Value) (w : World) (h : s121_p3 K (s 0) (s 1) w) : Tr (s121_p3_den K s w) :=
  tr_simple (P := Tryz.prog) (codes := [(cd (Tryz.f121.body.getD .skip) [0]), (cd (Tryz.f121.body.getD .skip) [1, 0])]) (N := (fun s w => s121_p2 K (s 1) (s 2) w)) (N' := (s121_p2_den K)) (X := (fun i => (fun _ _ => False))) (X' := (fun i => (fun _ _ => False))) (R := s121_R K) (s := s) (w := w) (p := s121_p3 K (s 0) (s 1) w) (q := s121_p3_den K s w) (fun s w h => s121_p2_ok K s w @h) (fun i => tr_id) (by kernel_rfl) (by kernel_rfl) @h
/-- the call, from the text -/
theorem c121 (t0 t1 : Value) {K : Value → World → Prop} {w : World} (h : s121_p3 K t0 t1 w) : cl Tryz.prog 121 #[t0, t1] K w :=
  calls_of_tr (c := (Tryz.f121.body.getD .skip)) (fn := Tryz.f121) (q := s121_p3_den K (st0 #[t0, t1]) w) Tryz.func121 (by kernel_rfl) (by kernel_rfl) (Nat.le_of_ble_eq_true (by kernel_rfl)) (by kernel_rfl) (by kernel_rfl) (s121_p3_ok K (st0 #[t0, t1]) w @h)

/-! ### function 38 : e2e.engine.Open -/
def s38_R (K : Value → World → Prop) (s : Nat → Value) (w : World) : Prop := retv Tryz.prog s Tryz.f38.results.toList (fun vs => K (pack vs) w) w
def s38_p1 (K : Value → World → Prop) (t8 t10 : Value) (w : World) : Prop :=
  lnS t8 (fun t74 w =>
  nck t10 (fun t75 w =>
  fd 19 t75 (fun t76 w =>
  st1 t76 t74 (fun w =>
  cl Tryz.prog 125 #[t10] (fun t78 w =>
  boI .neq t78 (.int .i64 0) (fun t79 w =>
  ifb t79
  (bdq [(.int .i64 0), (.string ⟨#[]⟩)] [(some (0, 1), (.int .i64 19)), (some (1, 1), (.string ⟨#[119, 114, 105, 116, 105, 110, 103, 32, 116, 104, 101, 32, 115, 110, 97, 112, 115, 104, 111, 116, 32, 97, 102, 116, 101, 114, 32, 114, 101, 99, 111, 118, 101, 114, 121]⟩))] (fun t80 w =>
  nw 157 (t80).cells (fun t81 w =>
  K (.tuple #[(.pointer none), (.iface 155 t81)]) w) w) w)
  (K (.tuple #[t10, .nilIface]) w)) w) w) w) w) w) w
def s38_p1_den (K : Value → World → Prop) : (Nat → Value) → World → Prop := denL Tryz.prog [(cd (Tryz.f38.body.getD .skip) [1, 1, 1, 1, 1, 1, 1, 0]), (cd (Tryz.f38.body.getD .skip) [1, 1, 1, 1, 1, 1, 1, 1, 0, 0]), (cd (Tryz.f38.body.getD .skip) [1, 1, 1, 1, 1, 1, 1, 1, 0, 1]), (cd (Tryz.f38.body.getD .skip) [1, 1, 1, 1, 1, 1, 1, 1, 1, 0]), (cd (Tryz.f38.body.getD .skip) [1, 1, 1, 1, 1, 1, 1, 1, 1, 1])] (fun _ _ => False) (fun i => (fun _ _ => False)) (s38_R K)
theorem s38_p1_ok (K : Value → World → Prop) (s : Nat → Value) (w : World) (h : s38_p1 K (s 8) (s 10) w) : Tr (s38_p1_den K s w) :=
  tr_simple (P := Tryz.prog) (codes := [(cd (Tryz.f38.body.getD .skip) [1, 1, 1, 1, 1, 1, 1, 0]), (cd (Tryz.f38.body.getD .skip) [1, 1, 1, 1, 1, 1, 1, 1, 0, 0]), (cd (Tryz.f38.body.getD .skip) [1, 1, 1, 1, 1, 1, 1, 1, 0, 1]), (cd (Tryz.f38.body.getD .skip) [1, 1, 1, 1, 1, 1, 1, 1, 1, 0]), (cd (Tryz.f38.body.getD .skip) [1, 1, 1, 1, 1, 1, 1, 1, 1, 1])]) (N := (fun _ _ => False)) (N' := (fun _ _ => False)) (X := (fun i => (fun _ _ => False))) (X' := (fun i => (fun _ _ => False))) (R := s38_R K) (s := s) (w := w) (p := s38_p1 K (s 8) (s 10) w) (q := s38_p1_den K s w) tr_id (fun i => tr_id) (by kernel_rfl) (by kernel_rfl) @h
def s38_p2 (K : Value → World → Prop) (B1 : List Value → World → Prop) (t8 t10 t51 t52 t53 : Value) (w : World) : Prop :=
  boI .lss t53 t52 (fun t54 w =>
  ifb t54
  (ixs 1 t51 t53 (fun t55 w =>
  ld1 t55 (fun t56 w =>
  cl Tryz.prog 123 #[t10, t56] (fun t59 w =>
  un .not t59 (fun t60 w =>
  ifb t60
  (nck t10 (fun t62 w =>
  fd 18 t62 (fun t63 w =>
  ld1 t63 (fun t64 w =>
  boI .add t64 (.int .i64 1) (fun t65 w =>
  cl Tryz.prog 124 #[t65] (fun t66 w =>
  boS .add (.string ⟨#[114, 101, 112, 108, 97, 121, 105, 110, 103, 32, 101, 110, 116, 114, 121, 32]⟩) t66 (fun t67 w =>
  bdq [(.int .i64 0), (.string ⟨#[]⟩)] [(some (0, 1), (.int .i64 20)), (some (1, 1), t67)] (fun t68 w =>
  nw 157 (t68).cells (fun t69 w =>
  K (.tuple #[(.pointer none), (.iface 155 t69)]) w) w) w) w) w) w) w) w) w)
  (boI .add t53 (.int .i64 1) (fun t71 w =>
  B1 [t8, t10, t51, t52, t71] w) w)) w) w) w) w)
  (s38_p1 K t8 t10 w)) w
def s38_p2_den (K : Value → World → Prop) (M1 : (Nat → Value) → World → Prop) : (Nat → Value) → World → Prop := denL Tryz.prog [(cd (Tryz.f38.body.getD .skip) [1, 1, 1, 1, 1, 1, 0, 1, 0, 0, 0]), (cd (Tryz.f38.body.getD .skip) [1, 1, 1, 1, 1, 1, 0, 1, 0, 0, 1, 0]), (cd (Tryz.f38.body.getD .skip) [1, 1, 1, 1, 1, 1, 0, 1, 0, 0, 1, 1, 0]), (cd (Tryz.f38.body.getD .skip) [1, 1, 1, 1, 1, 1, 0, 1, 0, 0, 1, 1, 1])] M1 (fun i => (bif Nat.beq i 0 then (s38_p1_den K) else (fun _ _ => False))) (s38_R K)
theorem s38_p2_ok (K : Value → World → Prop) (B1 : List Value → World → Prop) (s : Nat → Value) (w : World) (h : s38_p2 K B1 (s 8) (s 10) (s 51) (s 52) (s 53) w) : Tr (s38_p2_den K (fun s w => B1 [s 8, s 10, s 51, s 52, s 53] w) s w) :=
  tr_simple (P := Tryz.prog) (codes := [(cd (Tryz.f38.body.getD .skip) [1, 1, 1, 1, 1, 1, 0, 1, 0, 0, 0]), (cd (Tryz.f38.body.getD .skip) [1, 1, 1, 1, 1, 1, 0, 1, 0, 0, 1, 0]), (cd (Tryz.f38.body.getD .skip) [1, 1, 1, 1, 1, 1, 0, 1, 0, 0, 1, 1, 0]), (cd (Tryz.f38.body.getD .skip) [1, 1, 1, 1, 1, 1, 0, 1, 0, 0, 1, 1, 1])]) (N := (fun s w => B1 [s 8, s 10, s 51, s 52, s 53] w)) (N' := (fun s w => B1 [s 8, s 10, s 51, s 52, s 53] w)) (X := (fun i => (bif Nat.beq i 0 then (fun s w => s38_p1 K (s 8) (s 10) w) else (fun _ _ => False)))) (X' := (fun i => (bif Nat.beq i 0 then (s38_p1_den K) else (fun _ _ => False)))) (R := s38_R K) (s := s) (w := w) (p := s38_p2 K B1 (s 8) (s 10) (s 51) (s 52) (s 53) w) (q := s38_p2_den K (fun s w => B1 [s 8, s 10, s 51, s 52, s 53] w) s w) tr_id (fun i => (tr_bif (fun s w h => s38_p1_ok K s w @h) tr_id)) (by kernel_rfl) (by kernel_rfl) @h
def s38_p3_F (K : Value → World → Prop) (B1 : List Value → World → Prop) (l : List Value) (w : World) : Prop :=
  match l with
  | [t8, t10, t51, t52, t53] => s38_p2 K B1 t8 t10 t51 t52 t53 w
  | _ => False
theorem s38_p3_Fe {K : Value → World → Prop} {B1 : List Value → World → Prop} {t8 t10 t51 t52 t53 : Value} {w : World} : s38_p3_F K B1 [t8, t10, t51, t52, t53] w = s38_p2 K B1 t8 t10 t51 t52 t53 w := by kernel_rfl
def s38_p3 (K : Value → World → Prop) (t8 t10 t51 t52 t53 : Value) (w : World) : Prop :=
  LoopL (s38_p3_F K) [t8, t10, t51, t52, t53] w
def s38_p3_den (K : Value → World → Prop) : (Nat → Value) → World → Prop := fun s w => LoopP (fun M1 s w => s38_p2_den K M1 s w) s w
theorem s38_p3_ok (K : Value → World → Prop) (s : Nat → Value) (w : World) (h : s38_p3 K (s 8) (s 10) (s 51) (s 52) (s 53) w) : Tr (s38_p3_den K s w) :=
  tr_loop (G := fun N' s w => s38_p2_den K N' s w) (F := s38_p3_F K) (sel := fun s => [s 8, s 10, s 51, s 52, s 53]) (s := s) (w := w) (p := s38_p3 K (s 8) (s 10) (s 51) (s 52) (s 53) w) (q := s38_p3_den K s w) (fun B s w h => s38_p2_ok K B s w @h) (by kernel_rfl) (by kernel_rfl) @h
def s38_p4 (K : Value → World → Prop) (t8 t10 : Value) (w : World) : Prop :=
  lnS t8 (fun t52 w =>
  s38_p3 K t8 t10 t8 t52 (.int .i64 0) w) w
def s38_p4_den (K : Value → World → Prop) : (Nat → Value) → World → Prop := denL Tryz.prog [(cd (Tryz.f38.body.getD .skip) [1, 1, 1, 1, 1, 1, 0, 0])] (s38_p3_den K) (fun i => (fun _ _ => False)) (s38_R K)
theorem s38_p4_ok (K : Value → World → Prop) (s : Nat → Value) (w : World) (h : s38_p4 K (s 8) (s 10) w) : Tr (s38_p4_den K s w) :=
  tr_simple (P := Tryz.prog) (codes := [(cd (Tryz.f38.body.getD .skip) [1, 1, 1, 1, 1, 1, 0, 0])]) (N := (fun s w => s38_p3 K (s 8) (s 10) (s 51) (s 52) (s 53) w)) (N' := (s38_p3_den K)) (X := (fun i => (fun _ _ => False))) (X' := (fun i => (fun _ _ => False))) (R := s38_R K) (s := s) (w := w) (p := s38_p4 K (s 8) (s 10) w) (q := s38_p4_den K s w) (fun s w h => s38_p3_ok K s w @h) (fun i => tr_id) (by kernel_rfl) (by kernel_rfl) @h
def s38_p5 (K : Value → World → Prop) (t0 t1 : Value) (w : World) : Prop :=
  nw 34 (t0).cells (fun t2 w =>
  boP .eql t1 (.pointer none) (fun t14 w =>
  gd t14 false (ldn 14 t2) (fun t16 w =>
  gd t14 false (cl Tryz.prog 119 #[t16]) (fun t17 w =>
  gd t14 false (un .not t17) (fun t18 w =>
  pk t14 (.bool true) t18 (fun t19 w =>
  ifb t19
  (bdq [(.int .i64 0), (.string ⟨#[]⟩)] [(some (0, 1), (.int .i64 21)), (some (1, 1), (.string ⟨#[111, 112, 101, 110]⟩))] (fun t20 w =>
  nw 157 (t20).cells (fun t21 w =>
  K (.tuple #[(.pointer none), (.iface 155 t21)]) w) w) w)
  (cl Tryz.prog 120 #[t1] (fun t25 w =>
  exq t25 0 (fun t26 w =>
  exq t25 1 (fun t27 w =>
  exq t25 2 (fun t28 w =>
  exq t25 3 (fun t29 w =>
  boI .neq t29 (.int .i64 0) (fun t31 w =>
  ifb t31
  (bdq [(.int .i64 0), (.string ⟨#[]⟩)] [(some (0, 1), t29), (some (1, 1), (.string ⟨#[114, 101, 97, 100, 105, 110, 103, 32, 116, 104, 101, 32, 106, 111, 117, 114, 110, 97, 108]⟩))] (fun t33 w =>
  nw 157 (t33).cells (fun t34 w =>
  K (.tuple #[(.pointer none), (.iface 155 t34)]) w) w) w)
  (ldn 14 t2 (fun t36 w =>
  cl Tryz.prog 121 #[t36, t1] (fun t38 w =>
  ifb t27
  (cl Tryz.prog 122 #[t38, t26] (fun t42 w =>
  un .not t42 (fun t43 w =>
  ifb t43
  (bdq [(.int .i64 0), (.string ⟨#[]⟩)] [(some (0, 1), (.int .i64 20)), (some (1, 1), (.string ⟨#[114, 101, 115, 116, 111, 114, 105, 110, 103, 32, 116, 104, 101, 32, 115, 110, 97, 112, 115, 104, 111, 116]⟩))] (fun t44 w =>
  nw 157 (t44).cells (fun t45 w =>
  K (.tuple #[(.pointer none), (.iface 155 t45)]) w) w) w)
  (nck t38 (fun t48 w =>
  fd 22 t48 (fun t49 w =>
  fd 5 t49 (fun t50 w =>
  st1 t50 (.bool true) (fun w =>
  s38_p4 K t28 t38 w) w) w) w) w)) w) w)
  (s38_p4 K t28 t38 w)) w) w)) w) w) w) w) w) w)) w) w) w) w) w) w
def s38_p5_den (K : Value → World → Prop) : (Nat → Value) → World → Prop := denL Tryz.prog [(cd (Tryz.f38.body.getD .skip) [0]), (cd (Tryz.f38.body.getD .skip) [1, 0, 0]), (cd (Tryz.f38.body.getD .skip) [1, 0, 1]), (cd (Tryz.f38.body.getD .skip) [1, 1, 0]), (cd (Tryz.f38.body.getD .skip) [1, 1, 1, 0, 0]), (cd (Tryz.f38.body.getD .skip) [1, 1, 1, 0, 1]), (cd (Tryz.f38.body.getD .skip) [1, 1, 1, 1, 0]), (cd (Tryz.f38.body.getD .skip) [1, 1, 1, 1, 1, 0, 0]), (cd (Tryz.f38.body.getD .skip) [1, 1, 1, 1, 1, 0, 1])] (s38_p4_den K) (fun i => (fun _ _ => False)) (s38_R K)
theorem s38_p5_ok (K : Value → World → Prop) (s : Nat → Value) (w : World) (h : s38_p5 K (s 0) (s 1) w) : Tr (s38_p5_den K s w) :=
  tr_simple (P := Tryz.prog) (codes := [(cd (Tryz.f38.body.getD .skip) [0]), (cd (Tryz.f38.body.getD .skip) [1, 0, 0]), (cd (Tryz.f38.body.getD .skip) [1, 0, 1]), (cd (Tryz.f38.body.getD .skip) [1, 1, 0]), (cd (Tryz.f38.body.getD .skip) [1, 1, 1, 0, 0]), (cd (Tryz.f38.body.getD .skip) [1, 1, 1, 0, 1]), (cd (Tryz.f38.body.getD .skip) [1, 1, 1, 1, 0]), (cd (Tryz.f38.body.getD .skip) [1, 1, 1, 1, 1, 0, 0]), (cd (Tryz.f38.body.getD .skip) [1, 1, 1, 1, 1, 0, 1])]) (N := (fun s w => s38_p4 K (s 8) (s 10) w)) (N' := (s38_p4_den K)) (X := (fun i => (fun _ _ => False))) (X' := (fun i => (fun _ _ => False))) (R := s38_R K) (s := s) (w := w) (p := s38_p5 K (s 0) (s 1) w) (q := s38_p5_den K s w) (fun s w h => s38_p4_ok K s w @h) (fun i => tr_id) (by kernel_rfl) (by kernel_rfl) @h
/-- the call, from the text -/
theorem c38 (t0 t1 : Value) {K : Value → World → Prop} {w : World} (h : s38_p5 K t0 t1 w) : cl Tryz.prog 38 #[t0, t1] K w :=
  calls_of_tr (c := (Tryz.f38.body.getD .skip)) (fn := Tryz.f38) (q := s38_p5_den K (st0 #[t0, t1]) w) Tryz.func38 (by kernel_rfl) (by kernel_rfl) (Nat.le_of_ble_eq_true (by kernel_rfl)) (by kernel_rfl) (by kernel_rfl) (s38_p5_ok K (st0 #[t0, t1]) w @h)

/-! ### function 170 : e2e.bookingm.New -/
def s170_R (K : Value → World → Prop) (s : Nat → Value) (w : World) : Prop := retv Tryz.prog s Tryz.f170.results.toList (fun vs => K (pack vs) w) w
def s170_p1 (K : Value → World → Prop) (t0 : Value) (w : World) : Prop :=
  nw 34 (t0).cells (fun t1 w =>
  ldn 14 t1 (fun t3 w =>
  bdq [(.slice none 0 0), (.slice none 0 0), (.int .i64 0), (.int .i64 0), (.int .i64 0), (.int .i64 0), (.int .i64 0), (.int .i64 0), (.int .i64 0), (.int .i64 0), (.int .i64 0), (.int .i64 0), (.int .i64 0), (.int .i64 0), (.slice none 0 0)] [(some (0, 14), t3)] (fun t4 w =>
  nw 228 (t4).cells (fun t5 w =>
  K t5 w) w) w) w) w
def s170_p1_den (K : Value → World → Prop) : (Nat → Value) → World → Prop := denL Tryz.prog [(cd (Tryz.f170.body.getD .skip) [0]), (cd (Tryz.f170.body.getD .skip) [1, 0]), (cd (Tryz.f170.body.getD .skip) [1, 1])] (fun _ _ => False) (fun i => (fun _ _ => False)) (s170_R K)
theorem s170_p1_ok (K : Value → World → Prop) (s : Nat → Value) (w : World) (h : s170_p1 K (s 0) w) : Tr (s170_p1_den K s w) :=
  tr_simple (P := Tryz.prog) (codes := [(cd (Tryz.f170.body.getD .skip) [0]), (cd (Tryz.f170.body.getD .skip) [1, 0]), (cd (Tryz.f170.body.getD .skip) [1, 1])]) (N := (fun _ _ => False)) (N' := (fun _ _ => False)) (X := (fun i => (fun _ _ => False))) (X' := (fun i => (fun _ _ => False))) (R := s170_R K) (s := s) (w := w) (p := s170_p1 K (s 0) w) (q := s170_p1_den K s w) tr_id (fun i => tr_id) (by kernel_rfl) (by kernel_rfl) @h
/-- the call, from the text -/
theorem c170 (t0 : Value) {K : Value → World → Prop} {w : World} (h : s170_p1 K t0 w) : cl Tryz.prog 170 #[t0] K w :=
  calls_of_tr (c := (Tryz.f170.body.getD .skip)) (fn := Tryz.f170) (q := s170_p1_den K (st0 #[t0]) w) Tryz.func170 (by kernel_rfl) (by kernel_rfl) (Nat.le_of_ble_eq_true (by kernel_rfl)) (by kernel_rfl) (by kernel_rfl) (s170_p1_ok K (st0 #[t0]) w @h)

/-! ### function 173 : e2e.bookingm.Load -/
def s173_R (K : Value → World → Prop) (s : Nat → Value) (w : World) : Prop := retv Tryz.prog s Tryz.f173.results.toList (fun vs => K (pack vs) w) w
def s173_p1 (K : Value → World → Prop) (t0 t1 : Value) (w : World) : Prop :=
  nw 34 (t0).cells (fun t2 w =>
  ldn 14 t2 (fun t5 w =>
  bdq [(.slice none 0 0), (.slice none 0 0), (.int .i64 0), (.int .i64 0), (.int .i64 0), (.int .i64 0), (.int .i64 0), (.int .i64 0), (.int .i64 0), (.int .i64 0), (.int .i64 0), (.int .i64 0), (.int .i64 0), (.int .i64 0), (.slice none 0 0)] [(some (0, 14), t5), (some (14, 1), t1)] (fun t7 w =>
  nw 228 (t7).cells (fun t8 w =>
  K t8 w) w) w) w) w
def s173_p1_den (K : Value → World → Prop) : (Nat → Value) → World → Prop := denL Tryz.prog [(cd (Tryz.f173.body.getD .skip) [0]), (cd (Tryz.f173.body.getD .skip) [1, 0]), (cd (Tryz.f173.body.getD .skip) [1, 1])] (fun _ _ => False) (fun i => (fun _ _ => False)) (s173_R K)
theorem s173_p1_ok (K : Value → World → Prop) (s : Nat → Value) (w : World) (h : s173_p1 K (s 0) (s 1) w) : Tr (s173_p1_den K s w) :=
  tr_simple (P := Tryz.prog) (codes := [(cd (Tryz.f173.body.getD .skip) [0]), (cd (Tryz.f173.body.getD .skip) [1, 0]), (cd (Tryz.f173.body.getD .skip) [1, 1])]) (N := (fun _ _ => False)) (N' := (fun _ _ => False)) (X := (fun i => (fun _ _ => False))) (X' := (fun i => (fun _ _ => False))) (R := s173_R K) (s := s) (w := w) (p := s173_p1 K (s 0) (s 1) w) (q := s173_p1_den K s w) tr_id (fun i => tr_id) (by kernel_rfl) (by kernel_rfl) @h
/-- the call, from the text -/
theorem c173 (t0 t1 : Value) {K : Value → World → Prop} {w : World} (h : s173_p1 K t0 t1 w) : cl Tryz.prog 173 #[t0, t1] K w :=
  calls_of_tr (c := (Tryz.f173.body.getD .skip)) (fn := Tryz.f173) (q := s173_p1_den K (st0 #[t0, t1]) w) Tryz.func173 (by kernel_rfl) (by kernel_rfl) (Nat.le_of_ble_eq_true (by kernel_rfl)) (by kernel_rfl) (by kernel_rfl) (s173_p1_ok K (st0 #[t0, t1]) w @h)

/-! ### function 171 : e2e.standbym.New -/
def s171_R (K : Value → World → Prop) (s : Nat → Value) (w : World) : Prop := retv Tryz.prog s Tryz.f171.results.toList (fun vs => K (pack vs) w) w
def s171_p1 (K : Value → World → Prop) (t2 : Value) (w : World) : Prop :=
  K t2 w
def s171_p1_den (K : Value → World → Prop) : (Nat → Value) → World → Prop := denL Tryz.prog [(cd (Tryz.f171.body.getD .skip) [1, 1])] (fun _ _ => False) (fun i => (fun _ _ => False)) (s171_R K)
theorem s171_p1_ok (K : Value → World → Prop) (s : Nat → Value) (w : World) (h : s171_p1 K (s 2) w) : Tr (s171_p1_den K s w) :=
  tr_simple (P := Tryz.prog) (codes := [(cd (Tryz.f171.body.getD .skip) [1, 1])]) (N := (fun _ _ => False)) (N' := (fun _ _ => False)) (X := (fun i => (fun _ _ => False))) (X' := (fun i => (fun _ _ => False))) (R := s171_R K) (s := s) (w := w) (p := s171_p1 K (s 2) w) (q := s171_p1_den K s w) tr_id (fun i => tr_id) (by kernel_rfl) (by kernel_rfl) @h
def s171_p2_d (K : Value → World → Prop) (t1 : Value) (w0 w : World) : Prop :=
  ldn 14 t1 (fun t3 _ =>
  fd 0 t1 (fun t4 _ =>
  ld1 t4 (fun t5 _ =>
  lnS t5 (fun t6 _ =>
  mks 79 [(.slice none 0 0)] 24 t6 t6 (fun t7 w =>
  Below w0.heap.size w0 w ∧
  bdq [(.slice none 0 0), (.slice none 0 0), (.int .i64 0), (.int .i64 0), (.int .i64 0), (.int .i64 0), (.int .i64 0), (.int .i64 0), (.int .i64 0), (.int .i64 0), (.int .i64 0), (.int .i64 0), (.int .i64 0), (.int .i64 0), (.slice none 0 0)] [(some (0, 14), t3), (some (14, 1), t7)] (fun t8 w =>
  nw 231 (t8).cells (fun t9 w =>
  s171_p1 K t9 w) w) w) w) w0) w0) w0) w0
def s171_p2 (K : Value → World → Prop) (t1 : Value) (w : World) : Prop := s171_p2_d K t1 (drw w) (drw w)
def s171_p2_den (K : Value → World → Prop) : (Nat → Value) → World → Prop := denL Tryz.prog [(cd (Tryz.f171.body.getD .skip) [1, 0])] (s171_p1_den K) (fun i => (fun _ _ => False)) (s171_R K)
theorem s171_p2_ok (K : Value → World → Prop) (s : Nat → Value) (w : World) (h : s171_p2 K (s 1) w) : Tr (s171_p2_den K s w) :=
  tr_draw (P := Tryz.prog) (ops := (ro (cd (Tryz.f171.body.getD .skip) [1, 0]))) (ms := [0, 0, 2, 6, 14, 31, 63, 127]) (cs := [0, 1, 2, 3]) (N := (fun s w => s171_p1 K (s 2) w)) (N' := (s171_p1_den K)) (s := s) (w := w) (p := s171_p2 K (s 1) w) (q := s171_p2_den K s w) (by kernel_rfl) (by kernel_rfl) (fun s w h => s171_p1_ok K s w @h) (by kernel_rfl) (by kernel_rfl) @h
def s171_p3 (K : Value → World → Prop) (t0 : Value) (w : World) : Prop :=
  nw 34 (t0).cells (fun t1 w =>
  s171_p2 K t1 w) w
def s171_p3_den (K : Value → World → Prop) : (Nat → Value) → World → Prop := denL Tryz.prog [(cd (Tryz.f171.body.getD .skip) [0])] (s171_p2_den K) (fun i => (fun _ _ => False)) (s171_R K)
theorem s171_p3_ok (K : Value → World → Prop) (s : Nat → Value) (w : World) (h : s171_p3 K (s 0) w) : Tr (s171_p3_den K s w) :=
  tr_simple (P := Tryz.prog) (codes := [(cd (Tryz.f171.body.getD .skip) [0])]) (N := (fun s w => s171_p2 K (s 1) w)) (N' := (s171_p2_den K)) (X := (fun i => (fun _ _ => False))) (X' := (fun i => (fun _ _ => False))) (R := s171_R K) (s := s) (w := w) (p := s171_p3 K (s 0) w) (q := s171_p3_den K s w) (fun s w h => s171_p2_ok K s w @h) (fun i => tr_id) (by kernel_rfl) (by kernel_rfl) @h
/-- the call, from the text -/
theorem c171 (t0 : Value) {K : Value → World → Prop} {w : World} (h : s171_p3 K t0 w) : cl Tryz.prog 171 #[t0] K w :=
  calls_of_tr (c := (Tryz.f171.body.getD .skip)) (fn := Tryz.f171) (q := s171_p3_den K (st0 #[t0]) w) Tryz.func171 (by kernel_rfl) (by kernel_rfl) (Nat.le_of_ble_eq_true (by kernel_rfl)) (by kernel_rfl) (by kernel_rfl) (s171_p3_ok K (st0 #[t0]) w @h)

/-! ### function 174 : e2e.standbym.Load -/
def s174_R (K : Value → World → Prop) (s : Nat → Value) (w : World) : Prop := retv Tryz.prog s Tryz.f174.results.toList (fun vs => K (pack vs) w) w
def s174_p1 (K : Value → World → Prop) (t0 t1 : Value) (w : World) : Prop :=
  nw 34 (t0).cells (fun t2 w =>
  ldn 14 t2 (fun t5 w =>
  bdq [(.slice none 0 0), (.slice none 0 0), (.int .i64 0), (.int .i64 0), (.int .i64 0), (.int .i64 0), (.int .i64 0), (.int .i64 0), (.int .i64 0), (.int .i64 0), (.int .i64 0), (.int .i64 0), (.int .i64 0), (.int .i64 0), (.slice none 0 0)] [(some (0, 14), t5), (some (14, 1), t1)] (fun t7 w =>
  nw 231 (t7).cells (fun t8 w =>
  K t8 w) w) w) w) w
def s174_p1_den (K : Value → World → Prop) : (Nat → Value) → World → Prop := denL Tryz.prog [(cd (Tryz.f174.body.getD .skip) [0]), (cd (Tryz.f174.body.getD .skip) [1, 0]), (cd (Tryz.f174.body.getD .skip) [1, 1])] (fun _ _ => False) (fun i => (fun _ _ => False)) (s174_R K)
theorem s174_p1_ok (K : Value → World → Prop) (s : Nat → Value) (w : World) (h : s174_p1 K (s 0) (s 1) w) : Tr (s174_p1_den K s w) :=
  tr_simple (P := Tryz.prog) (codes := [(cd (Tryz.f174.body.getD .skip) [0]), (cd (Tryz.f174.body.getD .skip) [1, 0]), (cd (Tryz.f174.body.getD .skip) [1, 1])]) (N := (fun _ _ => False)) (N' := (fun _ _ => False)) (X := (fun i => (fun _ _ => False))) (X' := (fun i => (fun _ _ => False))) (R := s174_R K) (s := s) (w := w) (p := s174_p1 K (s 0) (s 1) w) (q := s174_p1_den K s w) tr_id (fun i => tr_id) (by kernel_rfl) (by kernel_rfl) @h
/-- the call, from the text -/
theorem c174 (t0 t1 : Value) {K : Value → World → Prop} {w : World} (h : s174_p1 K t0 t1 w) : cl Tryz.prog 174 #[t0, t1] K w :=
  calls_of_tr (c := (Tryz.f174.body.getD .skip)) (fn := Tryz.f174) (q := s174_p1_den K (st0 #[t0, t1]) w) Tryz.func174 (by kernel_rfl) (by kernel_rfl) (Nat.le_of_ble_eq_true (by kernel_rfl)) (by kernel_rfl) (by kernel_rfl) (s174_p1_ok K (st0 #[t0, t1]) w @h)

/-! ### function 27 : (*e2e.engine.Engine).Now -/
def s27_R (K : Value → World → Prop) (s : Nat → Value) (w : World) : Prop := retv Tryz.prog s Tryz.f27.results.toList (fun vs => K (pack vs) w) w
def s27_p1 (K : Value → World → Prop) (t0 : Value) (w : World) : Prop :=
  nck t0 (fun t4 w =>
  fd 14 t4 (fun t5 w =>
  ld1 t5 (fun t6 w =>
  K t6 w) w) w) w
def s27_p1_den (K : Value → World → Prop) : (Nat → Value) → World → Prop := denL Tryz.prog [(cd (Tryz.f27.body.getD .skip) [0]), (cd (Tryz.f27.body.getD .skip) [1, 0]), (cd (Tryz.f27.body.getD .skip) [1, 1])] (fun _ _ => False) (fun i => (fun _ _ => False)) (s27_R K)
theorem s27_p1_ok (K : Value → World → Prop) (s : Nat → Value) (w : World) (h : s27_p1 K (s 0) w) : Tr (s27_p1_den K s w) :=
  tr_simple (P := Tryz.prog) (codes := [(cd (Tryz.f27.body.getD .skip) [0]), (cd (Tryz.f27.body.getD .skip) [1, 0]), (cd (Tryz.f27.body.getD .skip) [1, 1])]) (N := (fun _ _ => False)) (N' := (fun _ _ => False)) (X := (fun i => (fun _ _ => False))) (X' := (fun i => (fun _ _ => False))) (R := s27_R K) (s := s) (w := w) (p := s27_p1 K (s 0) w) (q := s27_p1_den K s w) tr_id (fun i => tr_id) (by kernel_rfl) (by kernel_rfl) @h
/-- the call, from the text -/
theorem c27 (t0 : Value) {K : Value → World → Prop} {w : World} (h : s27_p1 K t0 w) : cl Tryz.prog 27 #[t0] K w :=
  calls_of_tr (c := (Tryz.f27.body.getD .skip)) (fn := Tryz.f27) (q := s27_p1_den K (st0 #[t0]) w) Tryz.func27 (by kernel_rfl) (by kernel_rfl) (Nat.le_of_ble_eq_true (by kernel_rfl)) (by kernel_rfl) (by kernel_rfl) (s27_p1_ok K (st0 #[t0]) w @h)

/-! ### function 111 : (*e2e.engine.Engine).Down -/
def s111_R (K : Value → World → Prop) (s : Nat → Value) (w : World) : Prop := retv Tryz.prog s Tryz.f111.results.toList (fun vs => K (pack vs) w) w
def s111_p1 (K : Value → World → Prop) (t0 : Value) (w : World) : Prop :=
  nck t0 (fun t4 w =>
  fd 21 t4 (fun t5 w =>
  ld1 t5 (fun t6 w =>
  K t6 w) w) w) w
def s111_p1_den (K : Value → World → Prop) : (Nat → Value) → World → Prop := denL Tryz.prog [(cd (Tryz.f111.body.getD .skip) [0]), (cd (Tryz.f111.body.getD .skip) [1, 0]), (cd (Tryz.f111.body.getD .skip) [1, 1])] (fun _ _ => False) (fun i => (fun _ _ => False)) (s111_R K)
theorem s111_p1_ok (K : Value → World → Prop) (s : Nat → Value) (w : World) (h : s111_p1 K (s 0) w) : Tr (s111_p1_den K s w) :=
  tr_simple (P := Tryz.prog) (codes := [(cd (Tryz.f111.body.getD .skip) [0]), (cd (Tryz.f111.body.getD .skip) [1, 0]), (cd (Tryz.f111.body.getD .skip) [1, 1])]) (N := (fun _ _ => False)) (N' := (fun _ _ => False)) (X := (fun i => (fun _ _ => False))) (X' := (fun i => (fun _ _ => False))) (R := s111_R K) (s := s) (w := w) (p := s111_p1 K (s 0) w) (q := s111_p1_den K s w) tr_id (fun i => tr_id) (by kernel_rfl) (by kernel_rfl) @h
/-- the call, from the text -/
theorem c111 (t0 : Value) {K : Value → World → Prop} {w : World} (h : s111_p1 K t0 w) : cl Tryz.prog 111 #[t0] K w :=
  calls_of_tr (c := (Tryz.f111.body.getD .skip)) (fn := Tryz.f111) (q := s111_p1_den K (st0 #[t0]) w) Tryz.func111 (by kernel_rfl) (by kernel_rfl) (Nat.le_of_ble_eq_true (by kernel_rfl)) (by kernel_rfl) (by kernel_rfl) (s111_p1_ok K (st0 #[t0]) w @h)

/-! ### function 50 : (*e2e.engine.Engine).Logged -/
def s50_R (K : Value → World → Prop) (s : Nat → Value) (w : World) : Prop := retv Tryz.prog s Tryz.f50.results.toList (fun vs => K (pack vs) w) w
def s50_p1 (K : Value → World → Prop) (t0 : Value) (w : World) : Prop :=
  nck t0 (fun t4 w =>
  fd 18 t4 (fun t5 w =>
  ld1 t5 (fun t6 w =>
  K t6 w) w) w) w
def s50_p1_den (K : Value → World → Prop) : (Nat → Value) → World → Prop := denL Tryz.prog [(cd (Tryz.f50.body.getD .skip) [0]), (cd (Tryz.f50.body.getD .skip) [1, 0]), (cd (Tryz.f50.body.getD .skip) [1, 1])] (fun _ _ => False) (fun i => (fun _ _ => False)) (s50_R K)
theorem s50_p1_ok (K : Value → World → Prop) (s : Nat → Value) (w : World) (h : s50_p1 K (s 0) w) : Tr (s50_p1_den K s w) :=
  tr_simple (P := Tryz.prog) (codes := [(cd (Tryz.f50.body.getD .skip) [0]), (cd (Tryz.f50.body.getD .skip) [1, 0]), (cd (Tryz.f50.body.getD .skip) [1, 1])]) (N := (fun _ _ => False)) (N' := (fun _ _ => False)) (X := (fun i => (fun _ _ => False))) (X' := (fun i => (fun _ _ => False))) (R := s50_R K) (s := s) (w := w) (p := s50_p1 K (s 0) w) (q := s50_p1_den K s w) tr_id (fun i => tr_id) (by kernel_rfl) (by kernel_rfl) @h
/-- the call, from the text -/
theorem c50 (t0 : Value) {K : Value → World → Prop} {w : World} (h : s50_p1 K t0 w) : cl Tryz.prog 50 #[t0] K w :=
  calls_of_tr (c := (Tryz.f50.body.getD .skip)) (fn := Tryz.f50) (q := s50_p1_den K (st0 #[t0]) w) Tryz.func50 (by kernel_rfl) (by kernel_rfl) (Nat.le_of_ble_eq_true (by kernel_rfl)) (by kernel_rfl) (by kernel_rfl) (s50_p1_ok K (st0 #[t0]) w @h)

/-! ### function 49 : (*e2e.engine.Engine).Stats -/
def s49_R (K : Value → World → Prop) (s : Nat → Value) (w : World) : Prop := retv Tryz.prog s Tryz.f49.results.toList (fun vs => K (pack vs) w) w
def s49_p1 (K : Value → World → Prop) (t0 : Value) (w : World) : Prop :=
  nw 102 #[(.int .i64 0), (.int .i64 0), (.int .i64 0), (.int .i64 0), (.int .i64 0), (.bool false), (.int .i64 0), (.int .i64 0), (.int .i64 0), (.int .i64 0), (.int .i64 0), (.int .i64 0), (.int .i64 0), (.int .i64 0), (.int .i64 0), (.int .i64 0), (.int .i64 0), (.int .i64 0), (.int .i64 0), (.int .i64 0), (.int .i64 0), (.int .i64 0), (.int .i64 0), (.int .i64 0), (.int .i64 0), (.int .i64 0), (.int .i64 0), (.int .i64 0), (.int .i64 0)] (fun t2 w =>
  nck t0 (fun t4 w =>
  fd 22 t4 (fun t5 w =>
  ldn 29 t5 (fun t6 w =>
  stn 29 t2 t6 (fun w =>
  ldn 29 t2 (fun r0 _ =>
  K r0 w) w) w) w) w) w) w
def s49_p1_den (K : Value → World → Prop) : (Nat → Value) → World → Prop := denL Tryz.prog [(cd (Tryz.f49.body.getD .skip) [0]), (cd (Tryz.f49.body.getD .skip) [1, 0]), (cd (Tryz.f49.body.getD .skip) [1, 1])] (fun _ _ => False) (fun i => (fun _ _ => False)) (s49_R K)
theorem s49_p1_ok (K : Value → World → Prop) (s : Nat → Value) (w : World) (h : s49_p1 K (s 0) w) : Tr (s49_p1_den K s w) :=
  tr_simple (P := Tryz.prog) (codes := [(cd (Tryz.f49.body.getD .skip) [0]), (cd (Tryz.f49.body.getD .skip) [1, 0]), (cd (Tryz.f49.body.getD .skip) [1, 1])]) (N := (fun _ _ => False)) (N' := (fun _ _ => False)) (X := (fun i => (fun _ _ => False))) (X' := (fun i => (fun _ _ => False))) (R := s49_R K) (s := s) (w := w) (p := s49_p1 K (s 0) w) (q := s49_p1_den K s w) tr_id (fun i => tr_id) (by kernel_rfl) (by kernel_rfl) @h
/-- the call, from the text -/
theorem c49 (t0 : Value) {K : Value → World → Prop} {w : World} (h : s49_p1 K t0 w) : cl Tryz.prog 49 #[t0] K w :=
  calls_of_tr (c := (Tryz.f49.body.getD .skip)) (fn := Tryz.f49) (q := s49_p1_den K (st0 #[t0]) w) Tryz.func49 (by kernel_rfl) (by kernel_rfl) (Nat.le_of_ble_eq_true (by kernel_rfl)) (by kernel_rfl) (by kernel_rfl) (s49_p1_ok K (st0 #[t0]) w @h)

/-! ### function 51 : e2e.engine.CodeOf -/
def s51_R (K : Value → World → Prop) (s : Nat → Value) (w : World) : Prop := retv Tryz.prog s Tryz.f51.results.toList (fun vs => K (pack vs) w) w
def s51_p1 (K : Value → World → Prop) (t0 : Value) (w : World) : Prop :=
  boF Tryz.prog true .eql t0 .nilIface (fun t6 w =>
  ifb t6
  (K (.int .i64 0) w)
  (taq 155 (.pointer none) true t0 (fun t9 w =>
  exq t9 0 (fun t10 w =>
  exq t9 1 (fun t11 w =>
  ifb t11
  (nck t10 (fun t14 w =>
  fd 0 t14 (fun t15 w =>
  ld1 t15 (fun t16 w =>
  K t16 w) w) w) w)
  (K (.int .i64 (-1)) w)) w) w) w)) w
def s51_p1_den (K : Value → World → Prop) : (Nat → Value) → World → Prop := denL Tryz.prog [(cd (Tryz.f51.body.getD .skip) [0]), (cd (Tryz.f51.body.getD .skip) [1, 0, 0]), (cd (Tryz.f51.body.getD .skip) [1, 0, 1]), (cd (Tryz.f51.body.getD .skip) [1, 1, 0, 0]), (cd (Tryz.f51.body.getD .skip) [1, 1, 0, 1, 0]), (cd (Tryz.f51.body.getD .skip) [1, 1, 0, 1, 1]), (cd (Tryz.f51.body.getD .skip) [1, 1, 1, 0]), (cd (Tryz.f51.body.getD .skip) [1, 1, 1, 1])] (fun _ _ => False) (fun i => (fun _ _ => False)) (s51_R K)
theorem s51_p1_ok (K : Value → World → Prop) (s : Nat → Value) (w : World) (h : s51_p1 K (s 0) w) : Tr (s51_p1_den K s w) :=
  tr_simple (P := Tryz.prog) (codes := [(cd (Tryz.f51.body.getD .skip) [0]), (cd (Tryz.f51.body.getD .skip) [1, 0, 0]), (cd (Tryz.f51.body.getD .skip) [1, 0, 1]), (cd (Tryz.f51.body.getD .skip) [1, 1, 0, 0]), (cd (Tryz.f51.body.getD .skip) [1, 1, 0, 1, 0]), (cd (Tryz.f51.body.getD .skip) [1, 1, 0, 1, 1]), (cd (Tryz.f51.body.getD .skip) [1, 1, 1, 0]), (cd (Tryz.f51.body.getD .skip) [1, 1, 1, 1])]) (N := (fun _ _ => False)) (N' := (fun _ _ => False)) (X := (fun i => (fun _ _ => False))) (X' := (fun i => (fun _ _ => False))) (R := s51_R K) (s := s) (w := w) (p := s51_p1 K (s 0) w) (q := s51_p1_den K s w) tr_id (fun i => tr_id) (by kernel_rfl) (by kernel_rfl) @h
/-- the call, from the text -/
theorem c51 (t0 : Value) {K : Value → World → Prop} {w : World} (h : s51_p1 K t0 w) : cl Tryz.prog 51 #[t0] K w :=
  calls_of_tr (c := (Tryz.f51.body.getD .skip)) (fn := Tryz.f51) (q := s51_p1_den K (st0 #[t0]) w) Tryz.func51 (by kernel_rfl) (by kernel_rfl) (Nat.le_of_ble_eq_true (by kernel_rfl)) (by kernel_rfl) (by kernel_rfl) (s51_p1_ok K (st0 #[t0]) w @h)

/-! ### function 129 : e2e.engine.refusal -/
def s129_R (K : Value → World → Prop) (s : Nat → Value) (w : World) : Prop := retv Tryz.prog s Tryz.f129.results.toList (fun vs => K (pack vs) w) w
def s129_p1 (K : Value → World → Prop) (t0 : Value) (w : World) : Prop :=
  nw 94 #[(.int .i64 0), (.int .u8 0), (.int .i64 0), (.int .i64 0), (.int .i64 0), (.int .i64 0), (.int .i64 0), (.slice none 0 0), (.int .i64 0), (.int .i64 0), (.int .i64 0), (.slice none 0 0), (.int .i64 0), (.int .i64 0), (.int .i64 0), (.int .i64 0), (.int .i64 0), (.int .i64 0), (.slice none 0 0), (.int .i64 0), (.int .i64 0), (.int .i64 0), (.int .i64 0), (.int .i64 0), (.int .i64 0), (.int .i64 0), (.int .i64 0), (.int .i64 0), (.int .i64 0), (.int .i64 0), (.int .i64 0), (.int .i64 0), (.int .i64 0), (.int .i64 0)] (fun t2 w =>
  bdq [(.int .i64 0), (.int .u8 0), (.int .i64 0), (.int .i64 0), (.int .i64 0), (.int .i64 0), (.int .i64 0), (.slice none 0 0), (.int .i64 0), (.int .i64 0), (.int .i64 0), (.slice none 0 0), (.int .i64 0), (.int .i64 0), (.int .i64 0), (.int .i64 0), (.int .i64 0), (.int .i64 0), (.slice none 0 0), (.int .i64 0), (.int .i64 0), (.int .i64 0), (.int .i64 0), (.int .i64 0), (.int .i64 0), (.int .i64 0), (.int .i64 0), (.int .i64 0), (.int .i64 0), (.int .i64 0), (.int .i64 0), (.int .i64 0), (.int .i64 0), (.int .i64 0)] [(some (0, 1), t0)] (fun t4 w =>
  stn 34 t2 t4 (fun w =>
  ldn 34 t2 (fun r0 _ =>
  K r0 w) w) w) w) w
def s129_p1_den (K : Value → World → Prop) : (Nat → Value) → World → Prop := denL Tryz.prog [(cd (Tryz.f129.body.getD .skip) [0]), (cd (Tryz.f129.body.getD .skip) [1, 0]), (cd (Tryz.f129.body.getD .skip) [1, 1])] (fun _ _ => False) (fun i => (fun _ _ => False)) (s129_R K)
theorem s129_p1_ok (K : Value → World → Prop) (s : Nat → Value) (w : World) (h : s129_p1 K (s 0) w) : Tr (s129_p1_den K s w) :=
  tr_simple (P := Tryz.prog) (codes := [(cd (Tryz.f129.body.getD .skip) [0]), (cd (Tryz.f129.body.getD .skip) [1, 0]), (cd (Tryz.f129.body.getD .skip) [1, 1])]) (N := (fun _ _ => False)) (N' := (fun _ _ => False)) (X := (fun i => (fun _ _ => False))) (X' := (fun i => (fun _ _ => False))) (R := s129_R K) (s := s) (w := w) (p := s129_p1 K (s 0) w) (q := s129_p1_den K s w) tr_id (fun i => tr_id) (by kernel_rfl) (by kernel_rfl) @h
/-- the call, from the text -/
theorem c129 (t0 : Value) {K : Value → World → Prop} {w : World} (h : s129_p1 K t0 w) : cl Tryz.prog 129 #[t0] K w :=
  calls_of_tr (c := (Tryz.f129.body.getD .skip)) (fn := Tryz.f129) (q := s129_p1_den K (st0 #[t0]) w) Tryz.func129 (by kernel_rfl) (by kernel_rfl) (Nat.le_of_ble_eq_true (by kernel_rfl)) (by kernel_rfl) (by kernel_rfl) (s129_p1_ok K (st0 #[t0]) w @h)

/-! ### function 124 : e2e.engine.decimal -/
def s124_R (K : Value → World → Prop) (s : Nat → Value) (w : World) : Prop := retv Tryz.prog s Tryz.f124.results.toList (fun vs => K (pack vs) w) w
def s124_p1 (K : Value → World → Prop) (t3 t4 : Value) (w : World) : Prop :=
  sla 20 1 t3 (some t4) none (fun t34 w =>
  rs Tryz.prog (convert 37 9 t34) (fun t35 w =>
  K t35 w) w) w
def s124_p1_den (K : Value → World → Prop) : (Nat → Value) → World → Prop := denL Tryz.prog [(cd (Tryz.f124.body.getD .skip) [1, 1, 1, 1, 1, 1, 1, 0]), (cd (Tryz.f124.body.getD .skip) [1, 1, 1, 1, 1, 1, 1, 1])] (fun _ _ => False) (fun i => (fun _ _ => False)) (s124_R K)
theorem s124_p1_ok (K : Value → World → Prop) (s : Nat → Value) (w : World) (h : s124_p1 K (s 3) (s 4) w) : Tr (s124_p1_den K s w) :=
  tr_simple (P := Tryz.prog) (codes := [(cd (Tryz.f124.body.getD .skip) [1, 1, 1, 1, 1, 1, 1, 0]), (cd (Tryz.f124.body.getD .skip) [1, 1, 1, 1, 1, 1, 1, 1])]) (N := (fun _ _ => False)) (N' := (fun _ _ => False)) (X := (fun i => (fun _ _ => False))) (X' := (fun i => (fun _ _ => False))) (R := s124_R K) (s := s) (w := w) (p := s124_p1 K (s 3) (s 4) w) (q := s124_p1_den K s w) tr_id (fun i => tr_id) (by kernel_rfl) (by kernel_rfl) @h
def s124_p2 (K : Value → World → Prop) (t3 t4 t5 : Value) (w : World) : Prop :=
  ifb t5
  (boI .sub t4 (.int .i64 1) (fun t30 w =>
  ixa 20 1 t3 t30 (fun t32 w =>
  st1 t32 (.int .u8 45) (fun w =>
  s124_p1 K t3 t30 w) w) w) w)
  (s124_p1 K t3 t4 w)
def s124_p2_den (K : Value → World → Prop) : (Nat → Value) → World → Prop := denL Tryz.prog [(cd (Tryz.f124.body.getD .skip) [1, 1, 1, 1, 1, 1, 0, 0]), (cd (Tryz.f124.body.getD .skip) [1, 1, 1, 1, 1, 1, 0, 1])] (s124_p1_den K) (fun i => (fun _ _ => False)) (s124_R K)
theorem s124_p2_ok (K : Value → World → Prop) (s : Nat → Value) (w : World) (h : s124_p2 K (s 3) (s 4) (s 5) w) : Tr (s124_p2_den K s w) :=
  tr_simple (P := Tryz.prog) (codes := [(cd (Tryz.f124.body.getD .skip) [1, 1, 1, 1, 1, 1, 0, 0]), (cd (Tryz.f124.body.getD .skip) [1, 1, 1, 1, 1, 1, 0, 1])]) (N := (fun s w => s124_p1 K (s 3) (s 4) w)) (N' := (s124_p1_den K)) (X := (fun i => (fun _ _ => False))) (X' := (fun i => (fun _ _ => False))) (R := s124_R K) (s := s) (w := w) (p := s124_p2 K (s 3) (s 4) (s 5) w) (q := s124_p2_den K s w) (fun s w h => s124_p1_ok K s w @h) (fun i => tr_id) (by kernel_rfl) (by kernel_rfl) @h
def s124_p3 (K : Value → World → Prop) (B1 : List Value → World → Prop) (t0 t3 t4 t5 : Value) (w : World) : Prop :=
  boI .neq t0 (.int .i64 0) (fun t12 w =>
  ifb t12
  (boI .rem t0 (.int .i64 10) (fun t14 w =>
  boI .lss t14 (.int .i64 0) (fun t16 w =>
  ifb t16
  (un .neg t14 (fun t18 w =>
  boI .sub t4 (.int .i64 1) (fun t20 w =>
  boI .add (.int .i64 48) t18 (fun t23 w =>
  cvi .u8 t23 (fun t24 w =>
  ixa 20 1 t3 t20 (fun t25 w =>
  st1 t25 t24 (fun w =>
  boI .quo t0 (.int .i64 10) (fun t27 w =>
  B1 [t27, t3, t20, t5] w) w) w) w) w) w) w) w)
  (boI .sub t4 (.int .i64 1) (fun t20_2 w =>
  boI .add (.int .i64 48) t14 (fun t23_2 w =>
  cvi .u8 t23_2 (fun t24_2 w =>
  ixa 20 1 t3 t20_2 (fun t25_2 w =>
  st1 t25_2 t24_2 (fun w =>
  boI .quo t0 (.int .i64 10) (fun t27_2 w =>
  B1 [t27_2, t3, t20_2, t5] w) w) w) w) w) w) w)) w) w)
  (s124_p2 K t3 t4 t5 w)) w
def s124_p3_den (K : Value → World → Prop) (M1 : (Nat → Value) → World → Prop) : (Nat → Value) → World → Prop := denL Tryz.prog [(cd (Tryz.f124.body.getD .skip) [1, 1, 1, 1, 1, 0, 0, 0, 0, 0]), (cd (Tryz.f124.body.getD .skip) [1, 1, 1, 1, 1, 0, 0, 0, 0, 1]), (cd (Tryz.f124.body.getD .skip) [1, 1, 1, 1, 1, 0, 0, 0, 1])] M1 (fun i => (bif Nat.beq i 0 then (s124_p2_den K) else (fun _ _ => False))) (s124_R K)
theorem s124_p3_ok (K : Value → World → Prop) (B1 : List Value → World → Prop) (s : Nat → Value) (w : World) (h : s124_p3 K B1 (s 0) (s 3) (s 4) (s 5) w) : Tr (s124_p3_den K (fun s w => B1 [s 0, s 3, s 4, s 5] w) s w) :=
  tr_simple (P := Tryz.prog) (codes := [(cd (Tryz.f124.body.getD .skip) [1, 1, 1, 1, 1, 0, 0, 0, 0, 0]), (cd (Tryz.f124.body.getD .skip) [1, 1, 1, 1, 1, 0, 0, 0, 0, 1]), (cd (Tryz.f124.body.getD .skip) [1, 1, 1, 1, 1, 0, 0, 0, 1])]) (N := (fun s w => B1 [s 0, s 3, s 4, s 5] w)) (N' := (fun s w => B1 [s 0, s 3, s 4, s 5] w)) (X := (fun i => (bif Nat.beq i 0 then (fun s w => s124_p2 K (s 3) (s 4) (s 5) w) else (fun _ _ => False)))) (X' := (fun i => (bif Nat.beq i 0 then (s124_p2_den K) else (fun _ _ => False)))) (R := s124_R K) (s := s) (w := w) (p := s124_p3 K B1 (s 0) (s 3) (s 4) (s 5) w) (q := s124_p3_den K (fun s w => B1 [s 0, s 3, s 4, s 5] w) s w) tr_id (fun i => (tr_bif (fun s w h => s124_p2_ok K s w @h) tr_id)) (by kernel_rfl) (by kernel_rfl) @h
def s124_p4_F (K : Value → World → Prop) (B1 : List Value → World → Prop) (l : List Value) (w : World) : Prop :=
  match l with
  | [t0, t3, t4, t5] => s124_p3 K B1 t0 t3 t4 t5 w
  | _ => False
theorem s124_p4_Fe {K : Value → World → Prop} {B1 : List Value → World → Prop} {t0 t3 t4 t5 : Value} {w : World} : s124_p4_F K B1 [t0, t3, t4, t5] w = s124_p3 K B1 t0 t3 t4 t5 w := by kernel_rfl
def s124_p4 (K : Value → World → Prop) (t0 t3 t4 t5 : Value) (w : World) : Prop :=
  LoopL (s124_p4_F K) [t0, t3, t4, t5] w
def s124_p4_den (K : Value → World → Prop) : (Nat → Value) → World → Prop := fun s w => LoopP (fun M1 s w => s124_p3_den K M1 s w) s w
theorem s124_p4_ok (K : Value → World → Prop) (s : Nat → Value) (w : World) (h : s124_p4 K (s 0) (s 3) (s 4) (s 5) w) : Tr (s124_p4_den K s w) :=
  tr_loop (G := fun N' s w => s124_p3_den K N' s w) (F := s124_p4_F K) (sel := fun s => [s 0, s 3, s 4, s 5]) (s := s) (w := w) (p := s124_p4 K (s 0) (s 3) (s 4) (s 5) w) (q := s124_p4_den K s w) (fun B s w h => s124_p3_ok K B s w @h) (by kernel_rfl) (by kernel_rfl) @h
def s124_p5 (K : Value → World → Prop) (t0 : Value) (w : World) : Prop :=
  boI .eql t0 (.int .i64 0) (fun t8 w =>
  ifb t8
  (K (.string ⟨#[48]⟩) w)
  (nw 217 #[(.int .u8 0), (.int .u8 0), (.int .u8 0), (.int .u8 0), (.int .u8 0), (.int .u8 0), (.int .u8 0), (.int .u8 0), (.int .u8 0), (.int .u8 0), (.int .u8 0), (.int .u8 0), (.int .u8 0), (.int .u8 0), (.int .u8 0), (.int .u8 0), (.int .u8 0), (.int .u8 0), (.int .u8 0), (.int .u8 0)] (fun t3 w =>
  boI .lss t0 (.int .i64 0) (fun t10 w =>
  s124_p4 K t0 t3 (.int .i64 20) t10 w) w) w)) w
def s124_p5_den (K : Value → World → Prop) : (Nat → Value) → World → Prop := denL Tryz.prog [(cd (Tryz.f124.body.getD .skip) [0]), (cd (Tryz.f124.body.getD .skip) [1, 0, 0]), (cd (Tryz.f124.body.getD .skip) [1, 0, 1]), (cd (Tryz.f124.body.getD .skip) [1, 1, 0]), (cd (Tryz.f124.body.getD .skip) [1, 1, 1, 0]), (cd (Tryz.f124.body.getD .skip) [1, 1, 1, 1, 0])] (s124_p4_den K) (fun i => (fun _ _ => False)) (s124_R K)
theorem s124_p5_ok (K : Value → World → Prop) (s : Nat → Value) (w : World) (h : s124_p5 K (s 0) w) : Tr (s124_p5_den K s w) :=
  tr_simple (P := Tryz.prog) (codes := [(cd (Tryz.f124.body.getD .skip) [0]), (cd (Tryz.f124.body.getD .skip) [1, 0, 0]), (cd (Tryz.f124.body.getD .skip) [1, 0, 1]), (cd (Tryz.f124.body.getD .skip) [1, 1, 0]), (cd (Tryz.f124.body.getD .skip) [1, 1, 1, 0]), (cd (Tryz.f124.body.getD .skip) [1, 1, 1, 1, 0])]) (N := (fun s w => s124_p4 K (s 0) (s 3) (s 4) (s 5) w)) (N' := (s124_p4_den K)) (X := (fun i => (fun _ _ => False))) (X' := (fun i => (fun _ _ => False))) (R := s124_R K) (s := s) (w := w) (p := s124_p5 K (s 0) w) (q := s124_p5_den K s w) (fun s w h => s124_p4_ok K s w @h) (fun i => tr_id) (by kernel_rfl) (by kernel_rfl) @h
/-- the call, from the text -/
theorem c124 (t0 : Value) {K : Value → World → Prop} {w : World} (h : s124_p5 K t0 w) : cl Tryz.prog 124 #[t0] K w :=
  calls_of_tr (c := (Tryz.f124.body.getD .skip)) (fn := Tryz.f124) (q := s124_p5_den K (st0 #[t0]) w) Tryz.func124 (by kernel_rfl) (by kernel_rfl) (Nat.le_of_ble_eq_true (by kernel_rfl)) (by kernel_rfl) (by kernel_rfl) (s124_p5_ok K (st0 #[t0]) w @h)

end Go.Proofs.Qxb6500896aGreat
