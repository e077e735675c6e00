import Derived.Test.Qxb6500896aGreatProg
import Derived.Test.Qxb6500896aGreatShTr
namespace Go.Proofs.Qxb6500896aGreat
open Go.Sh Go.RowKit
set_option linter.unusedVariables false
set_option maxRecDepth 100000

/-! ### function 136 : e2e.engine.appendNumber -/
def s136_R (K : Value → World → Prop) (s : Nat → Value) (w : World) : Prop := retv Tryz.prog s Tryz.f136.results.toList (fun vs => K (pack vs) w) w
def s136_p1 (K : Value → World → Prop) (t0 t5 : Value) (w : World) : Prop :=
  cvi .u8 t5 (fun t20 w =>
  bsq 5 [(.int .u8 0)] 1 [(some (0, 1), t20)] (fun t21 w =>
  apq 5 [(.int .u8 0)] 1 t0 t21 (fun t22 w =>
  K t22 w) w) w) w
def s136_p1_den (K : Value → World → Prop) : (Nat → Value) → World → Prop := denL Tryz.prog [(cd (Tryz.f136.body.getD .skip) [1, 1, 1, 0]), (cd (Tryz.f136.body.getD .skip) [1, 1, 1, 1])] (fun _ _ => False) (fun i => (fun _ _ => False)) (s136_R K)
theorem s136_p1_ok (K : Value → World → Prop) (s : Nat → Value) (w : World) (h : s136_p1 K (s 0) (s 5) w) : Tr (s136_p1_den K s w) :=
  tr_simple (P := Tryz.prog) (codes := [(cd (Tryz.f136.body.getD .skip) [1, 1, 1, 0]), (cd (Tryz.f136.body.getD .skip) [1, 1, 1, 1])]) (N := (fun _ _ => False)) (N' := (fun _ _ => False)) (X := (fun i => (fun _ _ => False))) (X' := (fun i => (fun _ _ => False))) (R := s136_R K) (s := s) (w := w) (p := s136_p1 K (s 0) (s 5) w) (q := s136_p1_den K s w) tr_id (fun i => tr_id) (by kernel_rfl) (by kernel_rfl) @h
def s136_p2 (K : Value → World → Prop) (B1 : List Value → World → Prop) (t0 t5 : Value) (w : World) : Prop :=
  boI .geq t5 (.int .u64 128) (fun t9 w =>
  ifb t9
  (cvi .u8 t5 (fun t12 w =>
  boI .or t12 (.int .u8 128) (fun t13 w =>
  bsq 5 [(.int .u8 0)] 1 [(some (0, 1), t13)] (fun t14 w =>
  apq 5 [(.int .u8 0)] 1 t0 t14 (fun t15 w =>
  boI .shr t5 (.int .u64 7) (fun t17 w =>
  B1 [t15, t17] w) w) w) w) w) w)
  (s136_p1 K t0 t5 w)) w
def s136_p2_den (K : Value → World → Prop) (M1 : (Nat → Value) → World → Prop) : (Nat → Value) → World → Prop := denL Tryz.prog [(cd (Tryz.f136.body.getD .skip) [1, 1, 0, 0, 0, 0, 0]), (cd (Tryz.f136.body.getD .skip) [1, 1, 0, 0, 0, 0, 1]), (cd (Tryz.f136.body.getD .skip) [1, 1, 0, 0, 0, 1])] M1 (fun i => (bif Nat.beq i 0 then (s136_p1_den K) else (fun _ _ => False))) (s136_R K)
theorem s136_p2_ok (K : Value → World → Prop) (B1 : List Value → World → Prop) (s : Nat → Value) (w : World) (h : s136_p2 K B1 (s 0) (s 5) w) : Tr (s136_p2_den K (fun s w => B1 [s 0, s 5] w) s w) :=
  tr_simple (P := Tryz.prog) (codes := [(cd (Tryz.f136.body.getD .skip) [1, 1, 0, 0, 0, 0, 0]), (cd (Tryz.f136.body.getD .skip) [1, 1, 0, 0, 0, 0, 1]), (cd (Tryz.f136.body.getD .skip) [1, 1, 0, 0, 0, 1])]) (N := (fun s w => B1 [s 0, s 5] w)) (N' := (fun s w => B1 [s 0, s 5] w)) (X := (fun i => (bif Nat.beq i 0 then (fun s w => s136_p1 K (s 0) (s 5) w) else (fun _ _ => False)))) (X' := (fun i => (bif Nat.beq i 0 then (s136_p1_den K) else (fun _ _ => False)))) (R := s136_R K) (s := s) (w := w) (p := s136_p2 K B1 (s 0) (s 5) w) (q := s136_p2_den K (fun s w => B1 [s 0, s 5] w) s w) tr_id (fun i => (tr_bif (fun s w h => s136_p1_ok K s w @h) tr_id)) (by kernel_rfl) (by kernel_rfl) @h
def s136_p3_F (K : Value → World → Prop) (B1 : List Value → World → Prop) (l : List Value) (w : World) : Prop :=
  match l with
  | [t0, t5] => s136_p2 K B1 t0 t5 w
  | _ => False
theorem s136_p3_Fe {K : Value → World → Prop} {B1 : List Value → World → Prop} {t0 t5 : Value} {w : World} : s136_p3_F K B1 [t0, t5] w = s136_p2 K B1 t0 t5 w := by kernel_rfl
def s136_p3 (K : Value → World → Prop) (t0 t5 : Value) (w : World) : Prop :=
  LoopL (s136_p3_F K) [t0, t5] w
def s136_p3_den (K : Value → World → Prop) : (Nat → Value) → World → Prop := fun s w => LoopP (fun M1 s w => s136_p2_den K M1 s w) s w
theorem s136_p3_ok (K : Value → World → Prop) (s : Nat → Value) (w : World) (h : s136_p3 K (s 0) (s 5) w) : Tr (s136_p3_den K s w) :=
  tr_loop (G := fun N' s w => s136_p2_den K N' s w) (F := s136_p3_F K) (sel := fun s => [s 0, s 5]) (s := s) (w := w) (p := s136_p3 K (s 0) (s 5) w) (q := s136_p3_den K s w) (fun B s w h => s136_p2_ok K B s w @h) (by kernel_rfl) (by kernel_rfl) @h
def s136_p4 (K : Value → World → Prop) (t0 t1 : Value) (w : World) : Prop :=
  cvi .u64 t1 (fun t7 w =>
  s136_p3 K t0 t7 w) w
def s136_p4_den (K : Value → World → Prop) : (Nat → Value) → World → Prop := denL Tryz.prog [(cd (Tryz.f136.body.getD .skip) [0]), (cd (Tryz.f136.body.getD .skip) [1, 0])] (s136_p3_den K) (fun i => (fun _ _ => False)) (s136_R K)
theorem s136_p4_ok (K : Value → World → Prop) (s : Nat → Value) (w : World) (h : s136_p4 K (s 0) (s 1) w) : Tr (s136_p4_den K s w) :=
  tr_simple (P := Tryz.prog) (codes := [(cd (Tryz.f136.body.getD .skip) [0]), (cd (Tryz.f136.body.getD .skip) [1, 0])]) (N := (fun s w => s136_p3 K (s 0) (s 5) w)) (N' := (s136_p3_den K)) (X := (fun i => (fun _ _ => False))) (X' := (fun i => (fun _ _ => False))) (R := s136_R K) (s := s) (w := w) (p := s136_p4 K (s 0) (s 1) w) (q := s136_p4_den K s w) (fun s w h => s136_p3_ok K s w @h) (fun i => tr_id) (by kernel_rfl) (by kernel_rfl) @h
/-- the call, from the text -/
theorem c136 (t0 t1 : Value) {K : Value → World → Prop} {w : World} (h : s136_p4 K t0 t1 w) : cl Tryz.prog 136 #[t0, t1] K w :=
  calls_of_tr (c := (Tryz.f136.body.getD .skip)) (fn := Tryz.f136) (q := s136_p4_den K (st0 #[t0, t1]) w) Tryz.func136 (by kernel_rfl) (by kernel_rfl) (Nat.le_of_ble_eq_true (by kernel_rfl)) (by kernel_rfl) (by kernel_rfl) (s136_p4_ok K (st0 #[t0, t1]) w @h)

/-! ### function 157 : e2e.engine.scanNumber -/
def s157_R (K : Value → World → Prop) (s : Nat → Value) (w : World) : Prop := retv Tryz.prog s Tryz.f157.results.toList (fun vs => K (pack vs) w) w
def s157_p1 (K : Value → World → Prop) (w : World) : Prop :=
  K (.tuple #[(.int .i64 0), (.int .i64 0), (.int .i64 2)]) w
def s157_p1_den (K : Value → World → Prop) : (Nat → Value) → World → Prop := denL Tryz.prog [(cd (Tryz.f157.body.getD .skip) [1, 1, 1, 0]), (cd (Tryz.f157.body.getD .skip) [1, 1, 1, 1])] (fun _ _ => False) (fun i => (fun _ _ => False)) (s157_R K)
theorem s157_p1_ok (K : Value → World → Prop) (s : Nat → Value) (w : World) (h : s157_p1 K w) : Tr (s157_p1_den K s w) :=
  tr_simple (P := Tryz.prog) (codes := [(cd (Tryz.f157.body.getD .skip) [1, 1, 1, 0]), (cd (Tryz.f157.body.getD .skip) [1, 1, 1, 1])]) (N := (fun _ _ => False)) (N' := (fun _ _ => False)) (X := (fun i => (fun _ _ => False))) (X' := (fun i => (fun _ _ => False))) (R := s157_R K) (s := s) (w := w) (p := s157_p1 K w) (q := s157_p1_den K s w) tr_id (fun i => tr_id) (by kernel_rfl) (by kernel_rfl) @h
def s157_p2 (K : Value → World → Prop) (B1 : List Value → World → Prop) (t0 t5 t6 : Value) (w : World) : Prop :=
  boI .lss t6 (.int .i64 9) (fun t8 w =>
  ifb t8
  (lnS t0 (fun t13 w =>
  boI .eql t6 t13 (fun t14 w =>
  ifb t14
  (K (.tuple #[(.int .i64 0), (.int .i64 0), (.int .i64 1)]) w)
  (ixs 1 t0 t6 (fun t18 w =>
  ld1 t18 (fun t19 w =>
  boI .and t19 (.int .u8 127) (fun t20 w =>
  cvi .u64 t20 (fun t21 w =>
  cvi .u64 t6 (fun t23 w =>
  boI .mul (.int .u64 7) t23 (fun t24 w =>
  boI .shl t21 t24 (fun t25 w =>
  boI .or t5 t25 (fun t26 w =>
  ixs 1 t0 t6 (fun t29 w =>
  ld1 t29 (fun t30 w =>
  boI .lss t30 (.int .u8 128) (fun t31 w =>
  ifb t31
  (ixs 1 t0 t6 (fun t34 w =>
  ld1 t34 (fun t35 w =>
  boI .eql t35 (.int .u8 0) (fun t36 w =>
  gd t36 true (fun K w => K t6 w) (fun t38 w =>
  gd t36 true (boI .gtr t38 (.int .i64 0)) (fun t39 w =>
  pk t36 t39 (.bool false) (fun t40 w =>
  ifb t40
  (K (.tuple #[(.int .i64 0), (.int .i64 0), (.int .i64 2)]) w)
  (cvi .i64 t26 (fun t42 w =>
  boI .add t6 (.int .i64 1) (fun t44 w =>
  K (.tuple #[t42, t44, (.int .i64 0)]) w) w) w)) w) w) w) w) w) w)
  (boI .add t6 (.int .i64 1) (fun t10 w =>
  B1 [t0, t26, t10] w) w)) w) w) w) w) w) w) w) w) w) w) w)) w) w)
  (s157_p1 K w)) w
def s157_p2_den (K : Value → World → Prop) (M1 : (Nat → Value) → World → Prop) : (Nat → Value) → World → Prop := denL Tryz.prog [(cd (Tryz.f157.body.getD .skip) [1, 1, 0, 1, 0, 0, 0, 0]), (cd (Tryz.f157.body.getD .skip) [1, 1, 0, 1, 0, 0, 0, 1]), (cd (Tryz.f157.body.getD .skip) [1, 1, 0, 1, 0, 0, 1, 0]), (cd (Tryz.f157.body.getD .skip) [1, 1, 0, 1, 0, 0, 1, 1])] M1 (fun i => (bif Nat.beq i 0 then (s157_p1_den K) else (fun _ _ => False))) (s157_R K)
theorem s157_p2_ok (K : Value → World → Prop) (B1 : List Value → World → Prop) (s : Nat → Value) (w : World) (h : s157_p2 K B1 (s 0) (s 5) (s 6) w) : Tr (s157_p2_den K (fun s w => B1 [s 0, s 5, s 6] w) s w) :=
  tr_simple (P := Tryz.prog) (codes := [(cd (Tryz.f157.body.getD .skip) [1, 1, 0, 1, 0, 0, 0, 0]), (cd (Tryz.f157.body.getD .skip) [1, 1, 0, 1, 0, 0, 0, 1]), (cd (Tryz.f157.body.getD .skip) [1, 1, 0, 1, 0, 0, 1, 0]), (cd (Tryz.f157.body.getD .skip) [1, 1, 0, 1, 0, 0, 1, 1])]) (N := (fun s w => B1 [s 0, s 5, s 6] w)) (N' := (fun s w => B1 [s 0, s 5, s 6] w)) (X := (fun i => (bif Nat.beq i 0 then (fun s w => s157_p1 K w) else (fun _ _ => False)))) (X' := (fun i => (bif Nat.beq i 0 then (s157_p1_den K) else (fun _ _ => False)))) (R := s157_R K) (s := s) (w := w) (p := s157_p2 K B1 (s 0) (s 5) (s 6) w) (q := s157_p2_den K (fun s w => B1 [s 0, s 5, s 6] w) s w) tr_id (fun i => (tr_bif (fun s w h => s157_p1_ok K s w @h) tr_id)) (by kernel_rfl) (by kernel_rfl) @h
def s157_p3_F (K : Value → World → Prop) (B1 : List Value → World → Prop) (l : List Value) (w : World) : Prop :=
  match l with
  | [t0, t5, t6] => s157_p2 K B1 t0 t5 t6 w
  | _ => False
theorem s157_p3_Fe {K : Value → World → Prop} {B1 : List Value → World → Prop} {t0 t5 t6 : Value} {w : World} : s157_p3_F K B1 [t0, t5, t6] w = s157_p2 K B1 t0 t5 t6 w := by kernel_rfl
def s157_p3 (K : Value → World → Prop) (t0 t5 t6 : Value) (w : World) : Prop :=
  LoopL (s157_p3_F K) [t0, t5, t6] w
def s157_p3_den (K : Value → World → Prop) : (Nat → Value) → World → Prop := fun s w => LoopP (fun M1 s w => s157_p2_den K M1 s w) s w
theorem s157_p3_ok (K : Value → World → Prop) (s : Nat → Value) (w : World) (h : s157_p3 K (s 0) (s 5) (s 6) w) : Tr (s157_p3_den K s w) :=
  tr_loop (G := fun N' s w => s157_p2_den K N' s w) (F := s157_p3_F K) (sel := fun s => [s 0, s 5, s 6]) (s := s) (w := w) (p := s157_p3 K (s 0) (s 5) (s 6) w) (q := s157_p3_den K s w) (fun B s w h => s157_p2_ok K B s w @h) (by kernel_rfl) (by kernel_rfl) @h
def s157_p4 (K : Value → World → Prop) (t0 : Value) (w : World) : Prop :=
  s157_p3 K t0 (.int .u64 0) (.int .i64 0) w
def s157_p4_den (K : Value → World → Prop) : (Nat → Value) → World → Prop := denL Tryz.prog [(cd (Tryz.f157.body.getD .skip) [0]), (cd (Tryz.f157.body.getD .skip) [1, 0]), (cd (Tryz.f157.body.getD .skip) [1, 1, 0, 0])] (s157_p3_den K) (fun i => (fun _ _ => False)) (s157_R K)
theorem s157_p4_ok (K : Value → World → Prop) (s : Nat → Value) (w : World) (h : s157_p4 K (s 0) w) : Tr (s157_p4_den K s w) :=
  tr_simple (P := Tryz.prog) (codes := [(cd (Tryz.f157.body.getD .skip) [0]), (cd (Tryz.f157.body.getD .skip) [1, 0]), (cd (Tryz.f157.body.getD .skip) [1, 1, 0, 0])]) (N := (fun s w => s157_p3 K (s 0) (s 5) (s 6) w)) (N' := (s157_p3_den K)) (X := (fun i => (fun _ _ => False))) (X' := (fun i => (fun _ _ => False))) (R := s157_R K) (s := s) (w := w) (p := s157_p4 K (s 0) w) (q := s157_p4_den K s w) (fun s w h => s157_p3_ok K s w @h) (fun i => tr_id) (by kernel_rfl) (by kernel_rfl) @h
/-- the call, from the text -/
theorem c157 (t0 : Value) {K : Value → World → Prop} {w : World} (h : s157_p4 K t0 w) : cl Tryz.prog 157 #[t0] K w :=
  calls_of_tr (c := (Tryz.f157.body.getD .skip)) (fn := Tryz.f157) (q := s157_p4_den K (st0 #[t0]) w) Tryz.func157 (by kernel_rfl) (by kernel_rfl) (Nat.le_of_ble_eq_true (by kernel_rfl)) (by kernel_rfl) (by kernel_rfl) (s157_p4_ok K (st0 #[t0]) w @h)

/-! ### function 104 : (*e2e.engine.reader).octet -/
def s104_R (K : Value → World → Prop) (s : Nat → Value) (w : World) : Prop := retv Tryz.prog s Tryz.f104.results.toList (fun vs => K (pack vs) w) w
def s104_p1 (K : Value → World → Prop) (t0 t3 : Value) (w : World) : Prop :=
  nck t0 (fun t27 w =>
  fd 1 t27 (fun t28 w =>
  ld1 t28 (fun t29 w =>
  boI .add t29 (.int .i64 1) (fun t30 w =>
  nck t0 (fun t31 w =>
  fd 1 t31 (fun t32 w =>
  st1 t32 t30 (fun w =>
  K t3 w) w) w) w) w) w) w) w
def s104_p1_den (K : Value → World → Prop) : (Nat → Value) → World → Prop := denL Tryz.prog [(cd (Tryz.f104.body.getD .skip) [1, 1, 1, 0]), (cd (Tryz.f104.body.getD .skip) [1, 1, 1, 1, 0]), (cd (Tryz.f104.body.getD .skip) [1, 1, 1, 1, 1])] (fun _ _ => False) (fun i => (fun _ _ => False)) (s104_R K)
theorem s104_p1_ok (K : Value → World → Prop) (s : Nat → Value) (w : World) (h : s104_p1 K (s 0) (s 3) w) : Tr (s104_p1_den K s w) :=
  tr_simple (P := Tryz.prog) (codes := [(cd (Tryz.f104.body.getD .skip) [1, 1, 1, 0]), (cd (Tryz.f104.body.getD .skip) [1, 1, 1, 1, 0]), (cd (Tryz.f104.body.getD .skip) [1, 1, 1, 1, 1])]) (N := (fun _ _ => False)) (N' := (fun _ _ => False)) (X := (fun i => (fun _ _ => False))) (X' := (fun i => (fun _ _ => False))) (R := s104_R K) (s := s) (w := w) (p := s104_p1 K (s 0) (s 3) w) (q := s104_p1_den K s w) tr_id (fun i => tr_id) (by kernel_rfl) (by kernel_rfl) @h
def s104_p2_d (K : Value → World → Prop) (t0 : Value) (w0 w : World) : Prop :=
  nck t0 (fun t17 _ =>
  fd 0 t17 (fun t18 _ =>
  ld1 t18 (fun t19 _ =>
  nck t0 (fun t21 _ =>
  fd 1 t21 (fun t22 _ =>
  ld1 t22 (fun t23 _ =>
  ixs 1 t19 t23 (fun t24 _ =>
  ld1 t24 (fun t25 _ =>
  s104_p1 K t0 t25 w) w0) w0) w0) w0) w0) w0) w0) w0
def s104_p2 (K : Value → World → Prop) (t0 : Value) (w : World) : Prop := s104_p2_d K t0 (drw w) (drw w)
def s104_p2_den (K : Value → World → Prop) : (Nat → Value) → World → Prop := denL Tryz.prog [(cd (Tryz.f104.body.getD .skip) [1, 1, 0])] (s104_p1_den K) (fun i => (fun _ _ => False)) (s104_R K)
theorem s104_p2_ok (K : Value → World → Prop) (s : Nat → Value) (w : World) (h : s104_p2 K (s 0) w) : Tr (s104_p2_den K s w) :=
  tr_draw (P := Tryz.prog) (ops := (ro (cd (Tryz.f104.body.getD .skip) [1, 1, 0]))) (ms := [0, 1, 3, 7, 0, 16, 48, 112, 255, 511, 1023]) (cs := [0, 1, 2, 3, 4, 5, 6, 7, 8, 9, 10]) (N := (fun s w => s104_p1 K (s 0) (s 3) w)) (N' := (s104_p1_den K)) (s := s) (w := w) (p := s104_p2 K (s 0) w) (q := s104_p2_den K s w) (by kernel_rfl) (by kernel_rfl) (fun s w h => s104_p1_ok K s w @h) (by kernel_rfl) (by kernel_rfl) @h
def s104_p3 (K : Value → World → Prop) (t0 t13 : Value) (w : World) : Prop :=
  ifb t13
  (cl Tryz.prog 107 #[t0] (fun t15 w =>
  K (.int .u8 0) w) w)
  (s104_p2 K t0 w)
def s104_p3_den (K : Value → World → Prop) : (Nat → Value) → World → Prop := denL Tryz.prog [(cd (Tryz.f104.body.getD .skip) [1, 0, 1])] (s104_p2_den K) (fun i => (fun _ _ => False)) (s104_R K)
theorem s104_p3_ok (K : Value → World → Prop) (s : Nat → Value) (w : World) (h : s104_p3 K (s 0) (s 13) w) : Tr (s104_p3_den K s w) :=
  tr_simple (P := Tryz.prog) (codes := [(cd (Tryz.f104.body.getD .skip) [1, 0, 1])]) (N := (fun s w => s104_p2 K (s 0) w)) (N' := (s104_p2_den K)) (X := (fun i => (fun _ _ => False))) (X' := (fun i => (fun _ _ => False))) (R := s104_R K) (s := s) (w := w) (p := s104_p3 K (s 0) (s 13) w) (q := s104_p3_den K s w) (fun s w h => s104_p2_ok K s w @h) (fun i => tr_id) (by kernel_rfl) (by kernel_rfl) @h
def s104_p4_d (K : Value → World → Prop) (t0 : Value) (w0 w : World) : Prop :=
  nck t0 (fun t5 _ =>
  fd 1 t5 (fun t6 _ =>
  ld1 t6 (fun t7 _ =>
  nck t0 (fun t9 _ =>
  fd 0 t9 (fun t10 _ =>
  ld1 t10 (fun t11 _ =>
  lnS t11 (fun t12 _ =>
  boI .geq t7 t12 (fun t13 _ =>
  s104_p3 K t0 t13 w) w0) w0) w0) w0) w0) w0) w0) w0
def s104_p4 (K : Value → World → Prop) (t0 : Value) (w : World) : Prop := s104_p4_d K t0 (drw w) (drw w)
def s104_p4_den (K : Value → World → Prop) : (Nat → Value) → World → Prop := denL Tryz.prog [(cd (Tryz.f104.body.getD .skip) [1, 0, 0])] (s104_p3_den K) (fun i => (fun _ _ => False)) (s104_R K)
theorem s104_p4_ok (K : Value → World → Prop) (s : Nat → Value) (w : World) (h : s104_p4 K (s 0) w) : Tr (s104_p4_den K s w) :=
  tr_draw (P := Tryz.prog) (ops := (ro (cd (Tryz.f104.body.getD .skip) [1, 0, 0]))) (ms := [0, 1, 3, 7, 0, 16, 48, 112, 240, 511]) (cs := [0, 1, 2, 3, 4, 5, 6, 7, 8, 9]) (N := (fun s w => s104_p3 K (s 0) (s 13) w)) (N' := (s104_p3_den K)) (s := s) (w := w) (p := s104_p4 K (s 0) w) (q := s104_p4_den K s w) (by kernel_rfl) (by kernel_rfl) (fun s w h => s104_p3_ok K s w @h) (by kernel_rfl) (by kernel_rfl) @h
def s104_p5 (K : Value → World → Prop) (t0 : Value) (w : World) : Prop :=
  s104_p4 K t0 w
def s104_p5_den (K : Value → World → Prop) : (Nat → Value) → World → Prop := denL Tryz.prog [(cd (Tryz.f104.body.getD .skip) [0])] (s104_p4_den K) (fun i => (fun _ _ => False)) (s104_R K)
theorem s104_p5_ok (K : Value → World → Prop) (s : Nat → Value) (w : World) (h : s104_p5 K (s 0) w) : Tr (s104_p5_den K s w) :=
  tr_simple (P := Tryz.prog) (codes := [(cd (Tryz.f104.body.getD .skip) [0])]) (N := (fun s w => s104_p4 K (s 0) w)) (N' := (s104_p4_den K)) (X := (fun i => (fun _ _ => False))) (X' := (fun i => (fun _ _ => False))) (R := s104_R K) (s := s) (w := w) (p := s104_p5 K (s 0) w) (q := s104_p5_den K s w) (fun s w h => s104_p4_ok K s w @h) (fun i => tr_id) (by kernel_rfl) (by kernel_rfl) @h
/-- the call, from the text -/
theorem c104 (t0 : Value) {K : Value → World → Prop} {w : World} (h : s104_p5 K t0 w) : cl Tryz.prog 104 #[t0] K w :=
  calls_of_tr (c := (Tryz.f104.body.getD .skip)) (fn := Tryz.f104) (q := s104_p5_den K (st0 #[t0]) w) Tryz.func104 (by kernel_rfl) (by kernel_rfl) (Nat.le_of_ble_eq_true (by kernel_rfl)) (by kernel_rfl) (by kernel_rfl) (s104_p5_ok K (st0 #[t0]) w @h)

/-! ### function 105 : (*e2e.engine.reader).number -/
def s105_R (K : Value → World → Prop) (s : Nat → Value) (w : World) : Prop := retv Tryz.prog s Tryz.f105.results.toList (fun vs => K (pack vs) w) w
def s105_p1 (K : Value → World → Prop) (t0 t3 t4 t5 : Value) (w : World) : Prop :=
  boI .neq t5 (.int .i64 0) (fun t21 w =>
  ifb t21
  (cl Tryz.prog 107 #[t0] (fun t23 w =>
  K (.int .i64 0) w) w)
  (nck t0 (fun t25 w =>
  fd 1 t25 (fun t26 w =>
  ld1 t26 (fun t27 w =>
  boI .add t27 t4 (fun t29 w =>
  nck t0 (fun t30 w =>
  fd 1 t30 (fun t31 w =>
  st1 t31 t29 (fun w =>
  K t3 w) w) w) w) w) w) w) w)) w
def s105_p1_den (K : Value → World → Prop) : (Nat → Value) → World → Prop := denL Tryz.prog [(cd (Tryz.f105.body.getD .skip) [1, 1, 0, 0]), (cd (Tryz.f105.body.getD .skip) [1, 1, 0, 1]), (cd (Tryz.f105.body.getD .skip) [1, 1, 1, 0]), (cd (Tryz.f105.body.getD .skip) [1, 1, 1, 1, 0]), (cd (Tryz.f105.body.getD .skip) [1, 1, 1, 1, 1])] (fun _ _ => False) (fun i => (fun _ _ => False)) (s105_R K)
theorem s105_p1_ok (K : Value → World → Prop) (s : Nat → Value) (w : World) (h : s105_p1 K (s 0) (s 3) (s 4) (s 5) w) : Tr (s105_p1_den K s w) :=
  tr_simple (P := Tryz.prog) (codes := [(cd (Tryz.f105.body.getD .skip) [1, 1, 0, 0]), (cd (Tryz.f105.body.getD .skip) [1, 1, 0, 1]), (cd (Tryz.f105.body.getD .skip) [1, 1, 1, 0]), (cd (Tryz.f105.body.getD .skip) [1, 1, 1, 1, 0]), (cd (Tryz.f105.body.getD .skip) [1, 1, 1, 1, 1])]) (N := (fun _ _ => False)) (N' := (fun _ _ => False)) (X := (fun i => (fun _ _ => False))) (X' := (fun i => (fun _ _ => False))) (R := s105_R K) (s := s) (w := w) (p := s105_p1 K (s 0) (s 3) (s 4) (s 5) w) (q := s105_p1_den K s w) tr_id (fun i => tr_id) (by kernel_rfl) (by kernel_rfl) @h
def s105_p2_d (K : Value → World → Prop) (t0 : Value) (w0 w : World) : Prop :=
  nck t0 (fun t8 _ =>
  fd 0 t8 (fun t9 _ =>
  ld1 t9 (fun t10 _ =>
  nck t0 (fun t12 _ =>
  fd 1 t12 (fun t13 _ =>
  ld1 t13 (fun t14 _ =>
  sls 1 t10 (some t14) none (fun t15 _ =>
  cl Tryz.prog 157 #[t15] (fun t16 w =>
  (exq t16 0 (fun t17 w =>
  (exq t16 1 (fun t18 w =>
  (exq t16 2 (fun t19 w =>
  s105_p1 K t0 t17 t18 t19 w) w) ∧
  ((exq t16 2 (fun t19_2 w =>
  s105_p1 K t0 t17 t18 t19_2 w) w) ∧
  (exq t16 2 (fun t19_3 w =>
  s105_p1 K t0 t17 t18 t19_3 w) w))) w) ∧
  (exq t16 2 (fun t19_4 w =>
  (exq t16 1 (fun t18_2 w =>
  s105_p1 K t0 t17 t18_2 t19_4 w) w) ∧
  (exq t16 1 (fun t18_3 w =>
  s105_p1 K t0 t17 t18_3 t19_4 w) w)) w) ∧
  ((exq t16 1 (fun t18_4 w =>
  (exq t16 2 (fun t19_5 w =>
  s105_p1 K t0 t17 t18_4 t19_5 w) w) ∧
  (exq t16 2 (fun t19_6 w =>
  s105_p1 K t0 t17 t18_4 t19_6 w) w)) w) ∧
  (exq t16 2 (fun t19_7 w =>
  exq t16 1 (fun t18_5 w =>
  s105_p1 K t0 t17 t18_5 t19_7 w) w) w))) w) ∧
  (exq t16 1 (fun t18_6 w =>
  (exq t16 0 (fun t17_2 w =>
  (exq t16 2 (fun t19_8 w =>
  s105_p1 K t0 t17_2 t18_6 t19_8 w) w) ∧
  ((exq t16 2 (fun t19_9 w =>
  s105_p1 K t0 t17_2 t18_6 t19_9 w) w) ∧
  (exq t16 2 (fun t19_10 w =>
  s105_p1 K t0 t17_2 t18_6 t19_10 w) w))) w) ∧
  (exq t16 2 (fun t19_11 w =>
  exq t16 0 (fun t17_3 w =>
  s105_p1 K t0 t17_3 t18_6 t19_11 w) w) w)) w) ∧
  (exq t16 2 (fun t19_12 w =>
  (exq t16 0 (fun t17_4 w =>
  (exq t16 1 (fun t18_7 w =>
  s105_p1 K t0 t17_4 t18_7 t19_12 w) w) ∧
  (exq t16 1 (fun t18_8 w =>
  s105_p1 K t0 t17_4 t18_8 t19_12 w) w)) w) ∧
  (exq t16 1 (fun t18_9 w =>
  exq t16 0 (fun t17_5 w =>
  s105_p1 K t0 t17_5 t18_9 t19_12 w) w) w)) w)) w) w0) w0) w0) w0) w0) w0) w0
def s105_p2 (K : Value → World → Prop) (t0 : Value) (w : World) : Prop := s105_p2_d K t0 (drw w) (drw w)
def s105_p2_den (K : Value → World → Prop) : (Nat → Value) → World → Prop := denL Tryz.prog [(cd (Tryz.f105.body.getD .skip) [1, 0])] (s105_p1_den K) (fun i => (fun _ _ => False)) (s105_R K)
theorem s105_p2_ok (K : Value → World → Prop) (s : Nat → Value) (w : World) (h : s105_p2 K (s 0) w) : Tr (s105_p2_den K s w) :=
  tr_draw (P := Tryz.prog) (ops := (ro (cd (Tryz.f105.body.getD .skip) [1, 0]))) (ms := [0, 1, 3, 7, 0, 16, 48, 112, 255, 511, 1023, 2047, 2047, 2047, 4095, 24575, 65535]) (cs := [0, 1, 2, 3, 4, 5, 6, 7, 8]) (N := (fun s w => s105_p1 K (s 0) (s 3) (s 4) (s 5) w)) (N' := (s105_p1_den K)) (s := s) (w := w) (p := s105_p2 K (s 0) w) (q := s105_p2_den K s w) (by kernel_rfl) (by kernel_rfl) (fun s w h => s105_p1_ok K s w @h) (by kernel_rfl) (by kernel_rfl) @h
def s105_p3 (K : Value → World → Prop) (t0 : Value) (w : World) : Prop :=
  s105_p2 K t0 w
def s105_p3_den (K : Value → World → Prop) : (Nat → Value) → World → Prop := denL Tryz.prog [(cd (Tryz.f105.body.getD .skip) [0])] (s105_p2_den K) (fun i => (fun _ _ => False)) (s105_R K)
theorem s105_p3_ok (K : Value → World → Prop) (s : Nat → Value) (w : World) (h : s105_p3 K (s 0) w) : Tr (s105_p3_den K s w) :=
  tr_simple (P := Tryz.prog) (codes := [(cd (Tryz.f105.body.getD .skip) [0])]) (N := (fun s w => s105_p2 K (s 0) w)) (N' := (s105_p2_den K)) (X := (fun i => (fun _ _ => False))) (X' := (fun i => (fun _ _ => False))) (R := s105_R K) (s := s) (w := w) (p := s105_p3 K (s 0) w) (q := s105_p3_den K s w) (fun s w h => s105_p2_ok K s w @h) (fun i => tr_id) (by kernel_rfl) (by kernel_rfl) @h
/-- the call, from the text -/
theorem c105 (t0 : Value) {K : Value → World → Prop} {w : World} (h : s105_p3 K t0 w) : cl Tryz.prog 105 #[t0] K w :=
  calls_of_tr (c := (Tryz.f105.body.getD .skip)) (fn := Tryz.f105) (q := s105_p3_den K (st0 #[t0]) w) Tryz.func105 (by kernel_rfl) (by kernel_rfl) (Nat.le_of_ble_eq_true (by kernel_rfl)) (by kernel_rfl) (by kernel_rfl) (s105_p3_ok K (st0 #[t0]) w @h)

/-! ### function 106 : (*e2e.engine.reader).legs -/
def s106_R (K : Value → World → Prop) (s : Nat → Value) (w : World) : Prop := retv Tryz.prog s Tryz.f106.results.toList (fun vs => K (pack vs) w) w
def s106_p1 (K : Value → World → Prop) (t6 : Value) (w : World) : Prop :=
  K t6 w
def s106_p1_den (K : Value → World → Prop) : (Nat → Value) → World → Prop := denL Tryz.prog [(cd (Tryz.f106.body.getD .skip) [1, 1, 1, 1, 1, 0]), (cd (Tryz.f106.body.getD .skip) [1, 1, 1, 1, 1, 1])] (fun _ _ => False) (fun i => (fun _ _ => False)) (s106_R K)
theorem s106_p1_ok (K : Value → World → Prop) (s : Nat → Value) (w : World) (h : s106_p1 K (s 6) w) : Tr (s106_p1_den K s w) :=
  tr_simple (P := Tryz.prog) (codes := [(cd (Tryz.f106.body.getD .skip) [1, 1, 1, 1, 1, 0]), (cd (Tryz.f106.body.getD .skip) [1, 1, 1, 1, 1, 1])]) (N := (fun _ _ => False)) (N' := (fun _ _ => False)) (X := (fun i => (fun _ _ => False))) (X' := (fun i => (fun _ _ => False))) (R := s106_R K) (s := s) (w := w) (p := s106_p1 K (s 6) w) (q := s106_p1_den K s w) tr_id (fun i => tr_id) (by kernel_rfl) (by kernel_rfl) @h
def s106_p2 (K : Value → World → Prop) (B1 : List Value → World → Prop) (t0 t6 t22 t23 : Value) (w : World) : Prop :=
  boI .lss t23 t22 (fun t24 w =>
  ifb t24
  (cl Tryz.prog 105 #[t0] (fun t29 w =>
  ixs 2 t6 t23 (fun t30 w =>
  fd 0 t30 (fun t31 w =>
  st1 t31 t29 (fun w =>
  cl Tryz.prog 105 #[t0] (fun t35 w =>
  ixs 2 t6 t23 (fun t36 w =>
  fd 1 t36 (fun t37 w =>
  st1 t37 t35 (fun w =>
  boI .add t23 (.int .i64 1) (fun t38 w =>
  B1 [t0, t6, t22, t38] w) w) w) w) w) w) w) w) w) w)
  (s106_p1 K t6 w)) w
def s106_p2_den (K : Value → World → Prop) (M1 : (Nat → Value) → World → Prop) : (Nat → Value) → World → Prop := denL Tryz.prog [(cd (Tryz.f106.body.getD .skip) [1, 1, 1, 1, 0, 1, 0, 0, 0]), (cd (Tryz.f106.body.getD .skip) [1, 1, 1, 1, 0, 1, 0, 0, 1, 0]), (cd (Tryz.f106.body.getD .skip) [1, 1, 1, 1, 0, 1, 0, 0, 1, 1, 0]), (cd (Tryz.f106.body.getD .skip) [1, 1, 1, 1, 0, 1, 0, 0, 1, 1, 1])] M1 (fun i => (bif Nat.beq i 0 then (s106_p1_den K) else (fun _ _ => False))) (s106_R K)
theorem s106_p2_ok (K : Value → World → Prop) (B1 : List Value → World → Prop) (s : Nat → Value) (w : World) (h : s106_p2 K B1 (s 0) (s 6) (s 22) (s 23) w) : Tr (s106_p2_den K (fun s w => B1 [s 0, s 6, s 22, s 23] w) s w) :=
  tr_simple (P := Tryz.prog) (codes := [(cd (Tryz.f106.body.getD .skip) [1, 1, 1, 1, 0, 1, 0, 0, 0]), (cd (Tryz.f106.body.getD .skip) [1, 1, 1, 1, 0, 1, 0, 0, 1, 0]), (cd (Tryz.f106.body.getD .skip) [1, 1, 1, 1, 0, 1, 0, 0, 1, 1, 0]), (cd (Tryz.f106.body.getD .skip) [1, 1, 1, 1, 0, 1, 0, 0, 1, 1, 1])]) (N := (fun s w => B1 [s 0, s 6, s 22, s 23] w)) (N' := (fun s w => B1 [s 0, s 6, s 22, s 23] w)) (X := (fun i => (bif Nat.beq i 0 then (fun s w => s106_p1 K (s 6) w) else (fun _ _ => False)))) (X' := (fun i => (bif Nat.beq i 0 then (s106_p1_den K) else (fun _ _ => False)))) (R := s106_R K) (s := s) (w := w) (p := s106_p2 K B1 (s 0) (s 6) (s 22) (s 23) w) (q := s106_p2_den K (fun s w => B1 [s 0, s 6, s 22, s 23] w) s w) tr_id (fun i => (tr_bif (fun s w h => s106_p1_ok K s w @h) tr_id)) (by kernel_rfl) (by kernel_rfl) @h
def s106_p3_F (K : Value → World → Prop) (B1 : List Value → World → Prop) (l : List Value) (w : World) : Prop :=
  match l with
  | [t0, t6, t22, t23] => s106_p2 K B1 t0 t6 t22 t23 w
  | _ => False
theorem s106_p3_Fe {K : Value → World → Prop} {B1 : List Value → World → Prop} {t0 t6 t22 t23 : Value} {w : World} : s106_p3_F K B1 [t0, t6, t22, t23] w = s106_p2 K B1 t0 t6 t22 t23 w := by kernel_rfl
def s106_p3 (K : Value → World → Prop) (t0 t6 t22 t23 : Value) (w : World) : Prop :=
  LoopL (s106_p3_F K) [t0, t6, t22, t23] w
def s106_p3_den (K : Value → World → Prop) : (Nat → Value) → World → Prop := fun s w => LoopP (fun M1 s w => s106_p2_den K M1 s w) s w
theorem s106_p3_ok (K : Value → World → Prop) (s : Nat → Value) (w : World) (h : s106_p3 K (s 0) (s 6) (s 22) (s 23) w) : Tr (s106_p3_den K s w) :=
  tr_loop (G := fun N' s w => s106_p2_den K N' s w) (F := s106_p3_F K) (sel := fun s => [s 0, s 6, s 22, s 23]) (s := s) (w := w) (p := s106_p3 K (s 0) (s 6) (s 22) (s 23) w) (q := s106_p3_den K s w) (fun B s w h => s106_p2_ok K B s w @h) (by kernel_rfl) (by kernel_rfl) @h
def s106_p4 (K : Value → World → Prop) (t0 t1 : Value) (w : World) : Prop :=
  cl Tryz.prog 131 #[t0, t1] (fun t10 w =>
  nck t0 (fun t12 w =>
  fd 2 t12 (fun t13 w =>
  ld1 t13 (fun t14 w =>
  gd t14 false (fun K w => K t10 w) (fun t16 w =>
  gd t14 false (boI .eql t16 (.int .i64 0)) (fun t17 w =>
  pk t14 (.bool true) t17 (fun t18 w =>
  ifb t18
  (K (.slice none 0 0) w)
  (mks 88 [(.int .i64 0), (.int .i64 0)] 16 t10 t10 (fun t20 w =>
  lnS t20 (fun t22 w =>
  s106_p3 K t0 t20 t22 (.int .i64 0) w) w) w)) w) w) w) w) w) w) w
def s106_p4_den (K : Value → World → Prop) : (Nat → Value) → World → Prop := denL Tryz.prog [(cd (Tryz.f106.body.getD .skip) [0]), (cd (Tryz.f106.body.getD .skip) [1, 0]), (cd (Tryz.f106.body.getD .skip) [1, 1, 0, 0]), (cd (Tryz.f106.body.getD .skip) [1, 1, 0, 1]), (cd (Tryz.f106.body.getD .skip) [1, 1, 1, 0]), (cd (Tryz.f106.body.getD .skip) [1, 1, 1, 1, 0, 0])] (s106_p3_den K) (fun i => (fun _ _ => False)) (s106_R K)
theorem s106_p4_ok (K : Value → World → Prop) (s : Nat → Value) (w : World) (h : s106_p4 K (s 0) (s 1) w) : Tr (s106_p4_den K s w) :=
  tr_simple (P := Tryz.prog) (codes := [(cd (Tryz.f106.body.getD .skip) [0]), (cd (Tryz.f106.body.getD .skip) [1, 0]), (cd (Tryz.f106.body.getD .skip) [1, 1, 0, 0]), (cd (Tryz.f106.body.getD .skip) [1, 1, 0, 1]), (cd (Tryz.f106.body.getD .skip) [1, 1, 1, 0]), (cd (Tryz.f106.body.getD .skip) [1, 1, 1, 1, 0, 0])]) (N := (fun s w => s106_p3 K (s 0) (s 6) (s 22) (s 23) w)) (N' := (s106_p3_den K)) (X := (fun i => (fun _ _ => False))) (X' := (fun i => (fun _ _ => False))) (R := s106_R K) (s := s) (w := w) (p := s106_p4 K (s 0) (s 1) w) (q := s106_p4_den K s w) (fun s w h => s106_p3_ok K s w @h) (fun i => tr_id) (by kernel_rfl) (by kernel_rfl) @h
/-- the call, from the text -/
theorem c106 (t0 t1 : Value) {K : Value → World → Prop} {w : World} (h : s106_p4 K t0 t1 w) : cl Tryz.prog 106 #[t0, t1] K w :=
  calls_of_tr (c := (Tryz.f106.body.getD .skip)) (fn := Tryz.f106) (q := s106_p4_den K (st0 #[t0, t1]) w) Tryz.func106 (by kernel_rfl) (by kernel_rfl) (Nat.le_of_ble_eq_true (by kernel_rfl)) (by kernel_rfl) (by kernel_rfl) (s106_p4_ok K (st0 #[t0, t1]) w @h)

/-! ### function 107 : (*e2e.engine.reader).fail -/
def s107_R (K : Value → World → Prop) (s : Nat → Value) (w : World) : Prop := retv Tryz.prog s Tryz.f107.results.toList (fun vs => K (pack vs) w) w
def s107_p1 (K : Value → World → Prop) (t0 : Value) (w : World) : Prop :=
  nck t0 (fun t3 w =>
  fd 2 t3 (fun t4 w =>
  st1 t4 (.bool true) (fun w =>
  nck t0 (fun t7 w =>
  fd 0 t7 (fun t8 w =>
  ld1 t8 (fun t9 w =>
  lnS t9 (fun t10 w =>
  nck t0 (fun t11 w =>
  fd 1 t11 (fun t12 w =>
  st1 t12 t10 (fun w =>
  K (.tuple #[]) w) w) w) w) w) w) w) w) w) w) w
def s107_p1_den (K : Value → World → Prop) : (Nat → Value) → World → Prop := denL Tryz.prog [(cd (Tryz.f107.body.getD .skip) [0]), (cd (Tryz.f107.body.getD .skip) [1])] (s107_R K) (fun i => (fun _ _ => False)) (s107_R K)
theorem s107_p1_ok (K : Value → World → Prop) (s : Nat → Value) (w : World) (h : s107_p1 K (s 0) w) : Tr (s107_p1_den K s w) :=
  tr_simple (P := Tryz.prog) (codes := [(cd (Tryz.f107.body.getD .skip) [0]), (cd (Tryz.f107.body.getD .skip) [1])]) (N := (s107_R K)) (N' := (s107_R K)) (X := (fun i => (fun _ _ => False))) (X' := (fun i => (fun _ _ => False))) (R := s107_R K) (s := s) (w := w) (p := s107_p1 K (s 0) w) (q := s107_p1_den K s w) tr_id (fun i => tr_id) (by kernel_rfl) (by kernel_rfl) @h
/-- the call, from the text -/
theorem c107 (t0 : Value) {K : Value → World → Prop} {w : World} (h : s107_p1 K t0 w) : cl Tryz.prog 107 #[t0] K w :=
  calls_of_tr (c := (Tryz.f107.body.getD .skip)) (fn := Tryz.f107) (q := s107_p1_den K (st0 #[t0]) w) Tryz.func107 (by kernel_rfl) (by kernel_rfl) (Nat.le_of_ble_eq_true (by kernel_rfl)) (by kernel_rfl) (by kernel_rfl) (s107_p1_ok K (st0 #[t0]) w @h)

/-! ### function 108 : (*e2e.engine.reader).complete -/
def s108_R (K : Value → World → Prop) (s : Nat → Value) (w : World) : Prop := retv Tryz.prog s Tryz.f108.results.toList (fun vs => K (pack vs) w) w
def s108_p1 (K : Value → World → Prop) (t2 : Value) (w : World) : Prop :=
  K t2 w
def s108_p1_den (K : Value → World → Prop) : (Nat → Value) → World → Prop := denL Tryz.prog [(cd (Tryz.f108.body.getD .skip) [1, 1])] (fun _ _ => False) (fun i => (fun _ _ => False)) (s108_R K)
theorem s108_p1_ok (K : Value → World → Prop) (s : Nat → Value) (w : World) (h : s108_p1 K (s 2) w) : Tr (s108_p1_den K s w) :=
  tr_simple (P := Tryz.prog) (codes := [(cd (Tryz.f108.body.getD .skip) [1, 1])]) (N := (fun _ _ => False)) (N' := (fun _ _ => False)) (X := (fun i => (fun _ _ => False))) (X' := (fun i => (fun _ _ => False))) (R := s108_R K) (s := s) (w := w) (p := s108_p1 K (s 2) w) (q := s108_p1_den K s w) tr_id (fun i => tr_id) (by kernel_rfl) (by kernel_rfl) @h
def s108_p2_d (K : Value → World → Prop) (t0 : Value) (w0 w : World) : Prop :=
  nck t0 (fun t4 _ =>
  fd 2 t4 (fun t5 _ =>
  ld1 t5 (fun t6 _ =>
  un .not t6 (fun t7 _ =>
  gd t7 true (fun K w => K t0 w) (fun t9 _ =>
  gd t7 true (nck t9) (fun t10 _ =>
  gd t7 true (fd 1 t10) (fun t11 _ =>
  gd t7 true (ld1 t11) (fun t12 _ =>
  gd t7 true (fun K w => K t0 w) (fun t13 _ =>
  gd t7 true (nck t13) (fun t14 _ =>
  gd t7 true (fd 0 t14) (fun t15 _ =>
  gd t7 true (ld1 t15) (fun t16 _ =>
  gd t7 true (lnS t16) (fun t17 _ =>
  gd t7 true (boI .eql t12 t17) (fun t18 _ =>
  pk t7 t18 (.bool false) (fun t19 _ =>
  s108_p1 K t19 w) w0) w0) w0) w0) w0) w0) w0) w0) w0) w0) w0) w0) w0) w0) w0
def s108_p2 (K : Value → World → Prop) (t0 : Value) (w : World) : Prop := s108_p2_d K t0 (drw w) (drw w)
def s108_p2_den (K : Value → World → Prop) : (Nat → Value) → World → Prop := denL Tryz.prog [(cd (Tryz.f108.body.getD .skip) [1, 0])] (s108_p1_den K) (fun i => (fun _ _ => False)) (s108_R K)
theorem s108_p2_ok (K : Value → World → Prop) (s : Nat → Value) (w : World) (h : s108_p2 K (s 0) w) : Tr (s108_p2_den K s w) :=
  tr_draw (P := Tryz.prog) (ops := (ro (cd (Tryz.f108.body.getD .skip) [1, 0]))) (ms := [0, 1, 3, 7, 15, 31, 63, 127, 255, 511, 63, 1087, 3135, 7231, 15423, 32767, 65535, 131071]) (cs := [0, 1, 2, 3, 4, 5, 6, 7, 8, 9, 10, 11, 12, 13, 14, 15, 16, 17]) (N := (fun s w => s108_p1 K (s 2) w)) (N' := (s108_p1_den K)) (s := s) (w := w) (p := s108_p2 K (s 0) w) (q := s108_p2_den K s w) (by kernel_rfl) (by kernel_rfl) (fun s w h => s108_p1_ok K s w @h) (by kernel_rfl) (by kernel_rfl) @h
def s108_p3 (K : Value → World → Prop) (t0 : Value) (w : World) : Prop :=
  s108_p2 K t0 w
def s108_p3_den (K : Value → World → Prop) : (Nat → Value) → World → Prop := denL Tryz.prog [(cd (Tryz.f108.body.getD .skip) [0])] (s108_p2_den K) (fun i => (fun _ _ => False)) (s108_R K)
theorem s108_p3_ok (K : Value → World → Prop) (s : Nat → Value) (w : World) (h : s108_p3 K (s 0) w) : Tr (s108_p3_den K s w) :=
  tr_simple (P := Tryz.prog) (codes := [(cd (Tryz.f108.body.getD .skip) [0])]) (N := (fun s w => s108_p2 K (s 0) w)) (N' := (s108_p2_den K)) (X := (fun i => (fun _ _ => False))) (X' := (fun i => (fun _ _ => False))) (R := s108_R K) (s := s) (w := w) (p := s108_p3 K (s 0) w) (q := s108_p3_den K s w) (fun s w h => s108_p2_ok K s w @h) (fun i => tr_id) (by kernel_rfl) (by kernel_rfl) @h
/-- the call, from the text -/
theorem c108 (t0 : Value) {K : Value → World → Prop} {w : World} (h : s108_p3 K t0 w) : cl Tryz.prog 108 #[t0] K w :=
  calls_of_tr (c := (Tryz.f108.body.getD .skip)) (fn := Tryz.f108) (q := s108_p3_den K (st0 #[t0]) w) Tryz.func108 (by kernel_rfl) (by kernel_rfl) (Nat.le_of_ble_eq_true (by kernel_rfl)) (by kernel_rfl) (by kernel_rfl) (s108_p3_ok K (st0 #[t0]) w @h)

/-! ### function 131 : (*e2e.engine.reader).upTo -/
def s131_R (K : Value → World → Prop) (s : Nat → Value) (w : World) : Prop := retv Tryz.prog s Tryz.f131.results.toList (fun vs => K (pack vs) w) w
def s131_p1 (K : Value → World → Prop) (t0 t1 : Value) (w : World) : Prop :=
  cl Tryz.prog 105 #[t0] (fun t7 w =>
  boI .gtr t7 t1 (fun t10 w =>
  ifb t10
  (cl Tryz.prog 107 #[t0] (fun t12 w =>
  K (.int .i64 0) w) w)
  (K t7 w)) w) w
def s131_p1_den (K : Value → World → Prop) : (Nat → Value) → World → Prop := denL Tryz.prog [(cd (Tryz.f131.body.getD .skip) [0]), (cd (Tryz.f131.body.getD .skip) [1, 0]), (cd (Tryz.f131.body.getD .skip) [1, 1, 0, 0]), (cd (Tryz.f131.body.getD .skip) [1, 1, 0, 1]), (cd (Tryz.f131.body.getD .skip) [1, 1, 1, 0]), (cd (Tryz.f131.body.getD .skip) [1, 1, 1, 1])] (fun _ _ => False) (fun i => (fun _ _ => False)) (s131_R K)
theorem s131_p1_ok (K : Value → World → Prop) (s : Nat → Value) (w : World) (h : s131_p1 K (s 0) (s 1) w) : Tr (s131_p1_den K s w) :=
  tr_simple (P := Tryz.prog) (codes := [(cd (Tryz.f131.body.getD .skip) [0]), (cd (Tryz.f131.body.getD .skip) [1, 0]), (cd (Tryz.f131.body.getD .skip) [1, 1, 0, 0]), (cd (Tryz.f131.body.getD .skip) [1, 1, 0, 1]), (cd (Tryz.f131.body.getD .skip) [1, 1, 1, 0]), (cd (Tryz.f131.body.getD .skip) [1, 1, 1, 1])]) (N := (fun _ _ => False)) (N' := (fun _ _ => False)) (X := (fun i => (fun _ _ => False))) (X' := (fun i => (fun _ _ => False))) (R := s131_R K) (s := s) (w := w) (p := s131_p1 K (s 0) (s 1) w) (q := s131_p1_den K s w) tr_id (fun i => tr_id) (by kernel_rfl) (by kernel_rfl) @h
/-- the call, from the text -/
theorem c131 (t0 t1 : Value) {K : Value → World → Prop} {w : World} (h : s131_p1 K t0 t1 w) : cl Tryz.prog 131 #[t0, t1] K w :=
  calls_of_tr (c := (Tryz.f131.body.getD .skip)) (fn := Tryz.f131) (q := s131_p1_den K (st0 #[t0, t1]) w) Tryz.func131 (by kernel_rfl) (by kernel_rfl) (Nat.le_of_ble_eq_true (by kernel_rfl)) (by kernel_rfl) (by kernel_rfl) (s131_p1_ok K (st0 #[t0, t1]) w @h)

/-! ### function 132 : (*e2e.engine.reader).issues -/
def s132_R (K : Value → World → Prop) (s : Nat → Value) (w : World) : Prop := retv Tryz.prog s Tryz.f132.results.toList (fun vs => K (pack vs) w) w
def s132_p1 (K : Value → World → Prop) (t4 : Value) (w : World) : Prop :=
  K t4 w
def s132_p1_den (K : Value → World → Prop) : (Nat → Value) → World → Prop := denL Tryz.prog [(cd (Tryz.f132.body.getD .skip) [1, 1, 1, 1, 1, 0]), (cd (Tryz.f132.body.getD .skip) [1, 1, 1, 1, 1, 1])] (fun _ _ => False) (fun i => (fun _ _ => False)) (s132_R K)
theorem s132_p1_ok (K : Value → World → Prop) (s : Nat → Value) (w : World) (h : s132_p1 K (s 4) w) : Tr (s132_p1_den K s w) :=
  tr_simple (P := Tryz.prog) (codes := [(cd (Tryz.f132.body.getD .skip) [1, 1, 1, 1, 1, 0]), (cd (Tryz.f132.body.getD .skip) [1, 1, 1, 1, 1, 1])]) (N := (fun _ _ => False)) (N' := (fun _ _ => False)) (X := (fun i => (fun _ _ => False))) (X' := (fun i => (fun _ _ => False))) (R := s132_R K) (s := s) (w := w) (p := s132_p1 K (s 4) w) (q := s132_p1_den K s w) tr_id (fun i => tr_id) (by kernel_rfl) (by kernel_rfl) @h
def s132_p2 (K : Value → World → Prop) (B1 : List Value → World → Prop) (t0 t4 t19 t20 : Value) (w : World) : Prop :=
  boI .lss t20 t19 (fun t21 w =>
  ifb t21
  (cl Tryz.prog 105 #[t0] (fun t26 w =>
  ixs 2 t4 t20 (fun t27 w =>
  fd 0 t27 (fun t28 w =>
  st1 t28 t26 (fun w =>
  cl Tryz.prog 105 #[t0] (fun t32 w =>
  ixs 2 t4 t20 (fun t33 w =>
  fd 1 t33 (fun t34 w =>
  st1 t34 t32 (fun w =>
  boI .add t20 (.int .i64 1) (fun t35 w =>
  B1 [t0, t4, t19, t35] w) w) w) w) w) w) w) w) w) w)
  (s132_p1 K t4 w)) w
def s132_p2_den (K : Value → World → Prop) (M1 : (Nat → Value) → World → Prop) : (Nat → Value) → World → Prop := denL Tryz.prog [(cd (Tryz.f132.body.getD .skip) [1, 1, 1, 1, 0, 1, 0, 0, 0]), (cd (Tryz.f132.body.getD .skip) [1, 1, 1, 1, 0, 1, 0, 0, 1, 0]), (cd (Tryz.f132.body.getD .skip) [1, 1, 1, 1, 0, 1, 0, 0, 1, 1, 0]), (cd (Tryz.f132.body.getD .skip) [1, 1, 1, 1, 0, 1, 0, 0, 1, 1, 1])] M1 (fun i => (bif Nat.beq i 0 then (s132_p1_den K) else (fun _ _ => False))) (s132_R K)
theorem s132_p2_ok (K : Value → World → Prop) (B1 : List Value → World → Prop) (s : Nat → Value) (w : World) (h : s132_p2 K B1 (s 0) (s 4) (s 19) (s 20) w) : Tr (s132_p2_den K (fun s w => B1 [s 0, s 4, s 19, s 20] w) s w) :=
  tr_simple (P := Tryz.prog) (codes := [(cd (Tryz.f132.body.getD .skip) [1, 1, 1, 1, 0, 1, 0, 0, 0]), (cd (Tryz.f132.body.getD .skip) [1, 1, 1, 1, 0, 1, 0, 0, 1, 0]), (cd (Tryz.f132.body.getD .skip) [1, 1, 1, 1, 0, 1, 0, 0, 1, 1, 0]), (cd (Tryz.f132.body.getD .skip) [1, 1, 1, 1, 0, 1, 0, 0, 1, 1, 1])]) (N := (fun s w => B1 [s 0, s 4, s 19, s 20] w)) (N' := (fun s w => B1 [s 0, s 4, s 19, s 20] w)) (X := (fun i => (bif Nat.beq i 0 then (fun s w => s132_p1 K (s 4) w) else (fun _ _ => False)))) (X' := (fun i => (bif Nat.beq i 0 then (s132_p1_den K) else (fun _ _ => False)))) (R := s132_R K) (s := s) (w := w) (p := s132_p2 K B1 (s 0) (s 4) (s 19) (s 20) w) (q := s132_p2_den K (fun s w => B1 [s 0, s 4, s 19, s 20] w) s w) tr_id (fun i => (tr_bif (fun s w h => s132_p1_ok K s w @h) tr_id)) (by kernel_rfl) (by kernel_rfl) @h
def s132_p3_F (K : Value → World → Prop) (B1 : List Value → World → Prop) (l : List Value) (w : World) : Prop :=
  match l with
  | [t0, t4, t19, t20] => s132_p2 K B1 t0 t4 t19 t20 w
  | _ => False
theorem s132_p3_Fe {K : Value → World → Prop} {B1 : List Value → World → Prop} {t0 t4 t19 t20 : Value} {w : World} : s132_p3_F K B1 [t0, t4, t19, t20] w = s132_p2 K B1 t0 t4 t19 t20 w := by kernel_rfl
def s132_p3 (K : Value → World → Prop) (t0 t4 t19 t20 : Value) (w : World) : Prop :=
  LoopL (s132_p3_F K) [t0, t4, t19, t20] w
def s132_p3_den (K : Value → World → Prop) : (Nat → Value) → World → Prop := fun s w => LoopP (fun M1 s w => s132_p2_den K M1 s w) s w
theorem s132_p3_ok (K : Value → World → Prop) (s : Nat → Value) (w : World) (h : s132_p3 K (s 0) (s 4) (s 19) (s 20) w) : Tr (s132_p3_den K s w) :=
  tr_loop (G := fun N' s w => s132_p2_den K N' s w) (F := s132_p3_F K) (sel := fun s => [s 0, s 4, s 19, s 20]) (s := s) (w := w) (p := s132_p3 K (s 0) (s 4) (s 19) (s 20) w) (q := s132_p3_den K s w) (fun B s w h => s132_p2_ok K B s w @h) (by kernel_rfl) (by kernel_rfl) @h
def s132_p4 (K : Value → World → Prop) (t0 : Value) (w : World) : Prop :=
  cl Tryz.prog 181 #[t0, (.int .i64 2)] (fun t7 w =>
  nck t0 (fun t9 w =>
  fd 2 t9 (fun t10 w =>
  ld1 t10 (fun t11 w =>
  gd t11 false (fun K w => K t7 w) (fun t13 w =>
  gd t11 false (boI .eql t13 (.int .i64 0)) (fun t14 w =>
  pk t11 (.bool true) t14 (fun t15 w =>
  ifb t15
  (K (.slice none 0 0) w)
  (mks 90 [(.int .i64 0), (.int .i64 0)] 16 t7 t7 (fun t17 w =>
  lnS t17 (fun t19 w =>
  s132_p3 K t0 t17 t19 (.int .i64 0) w) w) w)) w) w) w) w) w) w) w
def s132_p4_den (K : Value → World → Prop) : (Nat → Value) → World → Prop := denL Tryz.prog [(cd (Tryz.f132.body.getD .skip) [0]), (cd (Tryz.f132.body.getD .skip) [1, 0]), (cd (Tryz.f132.body.getD .skip) [1, 1, 0, 0]), (cd (Tryz.f132.body.getD .skip) [1, 1, 0, 1]), (cd (Tryz.f132.body.getD .skip) [1, 1, 1, 0]), (cd (Tryz.f132.body.getD .skip) [1, 1, 1, 1, 0, 0])] (s132_p3_den K) (fun i => (fun _ _ => False)) (s132_R K)
theorem s132_p4_ok (K : Value → World → Prop) (s : Nat → Value) (w : World) (h : s132_p4 K (s 0) w) : Tr (s132_p4_den K s w) :=
  tr_simple (P := Tryz.prog) (codes := [(cd (Tryz.f132.body.getD .skip) [0]), (cd (Tryz.f132.body.getD .skip) [1, 0]), (cd (Tryz.f132.body.getD .skip) [1, 1, 0, 0]), (cd (Tryz.f132.body.getD .skip) [1, 1, 0, 1]), (cd (Tryz.f132.body.getD .skip) [1, 1, 1, 0]), (cd (Tryz.f132.body.getD .skip) [1, 1, 1, 1, 0, 0])]) (N := (fun s w => s132_p3 K (s 0) (s 4) (s 19) (s 20) w)) (N' := (s132_p3_den K)) (X := (fun i => (fun _ _ => False))) (X' := (fun i => (fun _ _ => False))) (R := s132_R K) (s := s) (w := w) (p := s132_p4 K (s 0) w) (q := s132_p4_den K s w) (fun s w h => s132_p3_ok K s w @h) (fun i => tr_id) (by kernel_rfl) (by kernel_rfl) @h
/-- the call, from the text -/
theorem c132 (t0 : Value) {K : Value → World → Prop} {w : World} (h : s132_p4 K t0 w) : cl Tryz.prog 132 #[t0] K w :=
  calls_of_tr (c := (Tryz.f132.body.getD .skip)) (fn := Tryz.f132) (q := s132_p4_den K (st0 #[t0]) w) Tryz.func132 (by kernel_rfl) (by kernel_rfl) (Nat.le_of_ble_eq_true (by kernel_rfl)) (by kernel_rfl) (by kernel_rfl) (s132_p4_ok K (st0 #[t0]) w @h)

/-! ### function 133 : (*e2e.engine.reader).record -/
def s133_R (K : Value → World → Prop) (s : Nat → Value) (w : World) : Prop := retv Tryz.prog s Tryz.f133.results.toList (fun vs => K (pack vs) w) w
def s133_p1 (K : Value → World → Prop) (t0 : Value) (w : World) : Prop :=
  nw 85 #[(.int .i64 0), (.int .i64 0), (.int .i64 0), (.int .i64 0), (.int .i64 0), (.int .i64 0), (.slice none 0 0)] (fun t2 w =>
  nw 85 #[(.int .i64 0), (.int .i64 0), (.int .i64 0), (.int .i64 0), (.int .i64 0), (.int .i64 0), (.slice none 0 0)] (fun t3 w =>
  cl Tryz.prog 105 #[t0] (fun t5 w =>
  fd 0 t3 (fun t6 w =>
  st1 t6 t5 (fun w =>
  cl Tryz.prog 131 #[t0, (.int .i64 9)] (fun t8 w =>
  fd 1 t3 (fun t9 w =>
  st1 t9 t8 (fun w =>
  cl Tryz.prog 105 #[t0] (fun t11 w =>
  fd 2 t3 (fun t12 w =>
  st1 t12 t11 (fun w =>
  cl Tryz.prog 105 #[t0] (fun t14 w =>
  fd 3 t3 (fun t15 w =>
  st1 t15 t14 (fun w =>
  cl Tryz.prog 105 #[t0] (fun t17 w =>
  fd 4 t3 (fun t18 w =>
  st1 t18 t17 (fun w =>
  cl Tryz.prog 105 #[t0] (fun t20 w =>
  fd 5 t3 (fun t21 w =>
  st1 t21 t20 (fun w =>
  cl Tryz.prog 106 #[t0, (.int .i64 8)] (fun t23 w =>
  fd 6 t3 (fun t24 w =>
  st1 t24 t23 (fun w =>
  ldn 7 t3 (fun t25 w =>
  stn 7 t2 t25 (fun w =>
  ldn 7 t2 (fun r0 _ =>
  K r0 w) w) w) w) w) w) w) w) w) w) w) w) w) w) w) w) w) w) w) w) w) w) w) w) w) w) w
def s133_p1_den (K : Value → World → Prop) : (Nat → Value) → World → Prop := denL Tryz.prog [(cd (Tryz.f133.body.getD .skip) [0]), (cd (Tryz.f133.body.getD .skip) [1, 0]), (cd (Tryz.f133.body.getD .skip) [1, 1, 0]), (cd (Tryz.f133.body.getD .skip) [1, 1, 1, 0]), (cd (Tryz.f133.body.getD .skip) [1, 1, 1, 1, 0]), (cd (Tryz.f133.body.getD .skip) [1, 1, 1, 1, 1, 0]), (cd (Tryz.f133.body.getD .skip) [1, 1, 1, 1, 1, 1, 0]), (cd (Tryz.f133.body.getD .skip) [1, 1, 1, 1, 1, 1, 1, 0]), (cd (Tryz.f133.body.getD .skip) [1, 1, 1, 1, 1, 1, 1, 1, 0]), (cd (Tryz.f133.body.getD .skip) [1, 1, 1, 1, 1, 1, 1, 1, 1, 0]), (cd (Tryz.f133.body.getD .skip) [1, 1, 1, 1, 1, 1, 1, 1, 1, 1])] (fun _ _ => False) (fun i => (fun _ _ => False)) (s133_R K)
theorem s133_p1_ok (K : Value → World → Prop) (s : Nat → Value) (w : World) (h : s133_p1 K (s 0) w) : Tr (s133_p1_den K s w) :=
  tr_simple (P := Tryz.prog) (codes := [(cd (Tryz.f133.body.getD .skip) [0]), (cd (Tryz.f133.body.getD .skip) [1, 0]), (cd (Tryz.f133.body.getD .skip) [1, 1, 0]), (cd (Tryz.f133.body.getD .skip) [1, 1, 1, 0]), (cd (Tryz.f133.body.getD .skip) [1, 1, 1, 1, 0]), (cd (Tryz.f133.body.getD .skip) [1, 1, 1, 1, 1, 0]), (cd (Tryz.f133.body.getD .skip) [1, 1, 1, 1, 1, 1, 0]), (cd (Tryz.f133.body.getD .skip) [1, 1, 1, 1, 1, 1, 1, 0]), (cd (Tryz.f133.body.getD .skip) [1, 1, 1, 1, 1, 1, 1, 1, 0]), (cd (Tryz.f133.body.getD .skip) [1, 1, 1, 1, 1, 1, 1, 1, 1, 0]), (cd (Tryz.f133.body.getD .skip) [1, 1, 1, 1, 1, 1, 1, 1, 1, 1])]) (N := (fun _ _ => False)) (N' := (fun _ _ => False)) (X := (fun i => (fun _ _ => False))) (X' := (fun i => (fun _ _ => False))) (R := s133_R K) (s := s) (w := w) (p := s133_p1 K (s 0) w) (q := s133_p1_den K s w) tr_id (fun i => tr_id) (by kernel_rfl) (by kernel_rfl) @h
/-- the call, from the text -/
theorem c133 (t0 : Value) {K : Value → World → Prop} {w : World} (h : s133_p1 K t0 w) : cl Tryz.prog 133 #[t0] K w :=
  calls_of_tr (c := (Tryz.f133.body.getD .skip)) (fn := Tryz.f133) (q := s133_p1_den K (st0 #[t0]) w) Tryz.func133 (by kernel_rfl) (by kernel_rfl) (Nat.le_of_ble_eq_true (by kernel_rfl)) (by kernel_rfl) (by kernel_rfl) (s133_p1_ok K (st0 #[t0]) w @h)

/-! ### function 134 : (*e2e.engine.reader).records -/
def s134_R (K : Value → World → Prop) (s : Nat → Value) (w : World) : Prop := retv Tryz.prog s Tryz.f134.results.toList (fun vs => K (pack vs) w) w
def s134_p1 (K : Value → World → Prop) (t4 : Value) (w : World) : Prop :=
  K t4 w
def s134_p1_den (K : Value → World → Prop) : (Nat → Value) → World → Prop := denL Tryz.prog [(cd (Tryz.f134.body.getD .skip) [1, 1, 1, 1, 1, 0]), (cd (Tryz.f134.body.getD .skip) [1, 1, 1, 1, 1, 1])] (fun _ _ => False) (fun i => (fun _ _ => False)) (s134_R K)
theorem s134_p1_ok (K : Value → World → Prop) (s : Nat → Value) (w : World) (h : s134_p1 K (s 4) w) : Tr (s134_p1_den K s w) :=
  tr_simple (P := Tryz.prog) (codes := [(cd (Tryz.f134.body.getD .skip) [1, 1, 1, 1, 1, 0]), (cd (Tryz.f134.body.getD .skip) [1, 1, 1, 1, 1, 1])]) (N := (fun _ _ => False)) (N' := (fun _ _ => False)) (X := (fun i => (fun _ _ => False))) (X' := (fun i => (fun _ _ => False))) (R := s134_R K) (s := s) (w := w) (p := s134_p1 K (s 4) w) (q := s134_p1_den K s w) tr_id (fun i => tr_id) (by kernel_rfl) (by kernel_rfl) @h
def s134_p2 (K : Value → World → Prop) (B1 : List Value → World → Prop) (t0 t4 t19 t20 : Value) (w : World) : Prop :=
  boI .lss t20 t19 (fun t21 w =>
  ifb t21
  (cl Tryz.prog 133 #[t0] (fun t26 w =>
  ixs 7 t4 t20 (fun t27 w =>
  stn 7 t27 t26 (fun w =>
  boI .add t20 (.int .i64 1) (fun t28 w =>
  B1 [t0, t4, t19, t28] w) w) w) w) w)
  (s134_p1 K t4 w)) w
def s134_p2_den (K : Value → World → Prop) (M1 : (Nat → Value) → World → Prop) : (Nat → Value) → World → Prop := denL Tryz.prog [(cd (Tryz.f134.body.getD .skip) [1, 1, 1, 1, 0, 1, 0, 0, 0]), (cd (Tryz.f134.body.getD .skip) [1, 1, 1, 1, 0, 1, 0, 0, 1, 0]), (cd (Tryz.f134.body.getD .skip) [1, 1, 1, 1, 0, 1, 0, 0, 1, 1, 0]), (cd (Tryz.f134.body.getD .skip) [1, 1, 1, 1, 0, 1, 0, 0, 1, 1, 1])] M1 (fun i => (bif Nat.beq i 0 then (s134_p1_den K) else (fun _ _ => False))) (s134_R K)
theorem s134_p2_ok (K : Value → World → Prop) (B1 : List Value → World → Prop) (s : Nat → Value) (w : World) (h : s134_p2 K B1 (s 0) (s 4) (s 19) (s 20) w) : Tr (s134_p2_den K (fun s w => B1 [s 0, s 4, s 19, s 20] w) s w) :=
  tr_simple (P := Tryz.prog) (codes := [(cd (Tryz.f134.body.getD .skip) [1, 1, 1, 1, 0, 1, 0, 0, 0]), (cd (Tryz.f134.body.getD .skip) [1, 1, 1, 1, 0, 1, 0, 0, 1, 0]), (cd (Tryz.f134.body.getD .skip) [1, 1, 1, 1, 0, 1, 0, 0, 1, 1, 0]), (cd (Tryz.f134.body.getD .skip) [1, 1, 1, 1, 0, 1, 0, 0, 1, 1, 1])]) (N := (fun s w => B1 [s 0, s 4, s 19, s 20] w)) (N' := (fun s w => B1 [s 0, s 4, s 19, s 20] w)) (X := (fun i => (bif Nat.beq i 0 then (fun s w => s134_p1 K (s 4) w) else (fun _ _ => False)))) (X' := (fun i => (bif Nat.beq i 0 then (s134_p1_den K) else (fun _ _ => False)))) (R := s134_R K) (s := s) (w := w) (p := s134_p2 K B1 (s 0) (s 4) (s 19) (s 20) w) (q := s134_p2_den K (fun s w => B1 [s 0, s 4, s 19, s 20] w) s w) tr_id (fun i => (tr_bif (fun s w h => s134_p1_ok K s w @h) tr_id)) (by kernel_rfl) (by kernel_rfl) @h
def s134_p3_F (K : Value → World → Prop) (B1 : List Value → World → Prop) (l : List Value) (w : World) : Prop :=
  match l with
  | [t0, t4, t19, t20] => s134_p2 K B1 t0 t4 t19 t20 w
  | _ => False
theorem s134_p3_Fe {K : Value → World → Prop} {B1 : List Value → World → Prop} {t0 t4 t19 t20 : Value} {w : World} : s134_p3_F K B1 [t0, t4, t19, t20] w = s134_p2 K B1 t0 t4 t19 t20 w := by kernel_rfl
def s134_p3 (K : Value → World → Prop) (t0 t4 t19 t20 : Value) (w : World) : Prop :=
  LoopL (s134_p3_F K) [t0, t4, t19, t20] w
def s134_p3_den (K : Value → World → Prop) : (Nat → Value) → World → Prop := fun s w => LoopP (fun M1 s w => s134_p2_den K M1 s w) s w
theorem s134_p3_ok (K : Value → World → Prop) (s : Nat → Value) (w : World) (h : s134_p3 K (s 0) (s 4) (s 19) (s 20) w) : Tr (s134_p3_den K s w) :=
  tr_loop (G := fun N' s w => s134_p2_den K N' s w) (F := s134_p3_F K) (sel := fun s => [s 0, s 4, s 19, s 20]) (s := s) (w := w) (p := s134_p3 K (s 0) (s 4) (s 19) (s 20) w) (q := s134_p3_den K s w) (fun B s w h => s134_p2_ok K B s w @h) (by kernel_rfl) (by kernel_rfl) @h
def s134_p4 (K : Value → World → Prop) (t0 : Value) (w : World) : Prop :=
  cl Tryz.prog 181 #[t0, (.int .i64 7)] (fun t7 w =>
  nck t0 (fun t9 w =>
  fd 2 t9 (fun t10 w =>
  ld1 t10 (fun t11 w =>
  gd t11 false (fun K w => K t7 w) (fun t13 w =>
  gd t11 false (boI .eql t13 (.int .i64 0)) (fun t14 w =>
  pk t11 (.bool true) t14 (fun t15 w =>
  ifb t15
  (K (.slice none 0 0) w)
  (mks 85 [(.int .i64 0), (.int .i64 0), (.int .i64 0), (.int .i64 0), (.int .i64 0), (.int .i64 0), (.slice none 0 0)] 72 t7 t7 (fun t17 w =>
  lnS t17 (fun t19 w =>
  s134_p3 K t0 t17 t19 (.int .i64 0) w) w) w)) w) w) w) w) w) w) w
def s134_p4_den (K : Value → World → Prop) : (Nat → Value) → World → Prop := denL Tryz.prog [(cd (Tryz.f134.body.getD .skip) [0]), (cd (Tryz.f134.body.getD .skip) [1, 0]), (cd (Tryz.f134.body.getD .skip) [1, 1, 0, 0]), (cd (Tryz.f134.body.getD .skip) [1, 1, 0, 1]), (cd (Tryz.f134.body.getD .skip) [1, 1, 1, 0]), (cd (Tryz.f134.body.getD .skip) [1, 1, 1, 1, 0, 0])] (s134_p3_den K) (fun i => (fun _ _ => False)) (s134_R K)
theorem s134_p4_ok (K : Value → World → Prop) (s : Nat → Value) (w : World) (h : s134_p4 K (s 0) w) : Tr (s134_p4_den K s w) :=
  tr_simple (P := Tryz.prog) (codes := [(cd (Tryz.f134.body.getD .skip) [0]), (cd (Tryz.f134.body.getD .skip) [1, 0]), (cd (Tryz.f134.body.getD .skip) [1, 1, 0, 0]), (cd (Tryz.f134.body.getD .skip) [1, 1, 0, 1]), (cd (Tryz.f134.body.getD .skip) [1, 1, 1, 0]), (cd (Tryz.f134.body.getD .skip) [1, 1, 1, 1, 0, 0])]) (N := (fun s w => s134_p3 K (s 0) (s 4) (s 19) (s 20) w)) (N' := (s134_p3_den K)) (X := (fun i => (fun _ _ => False))) (X' := (fun i => (fun _ _ => False))) (R := s134_R K) (s := s) (w := w) (p := s134_p4 K (s 0) w) (q := s134_p4_den K s w) (fun s w h => s134_p3_ok K s w @h) (fun i => tr_id) (by kernel_rfl) (by kernel_rfl) @h
/-- the call, from the text -/
theorem c134 (t0 : Value) {K : Value → World → Prop} {w : World} (h : s134_p4 K t0 w) : cl Tryz.prog 134 #[t0] K w :=
  calls_of_tr (c := (Tryz.f134.body.getD .skip)) (fn := Tryz.f134) (q := s134_p4_den K (st0 #[t0]) w) Tryz.func134 (by kernel_rfl) (by kernel_rfl) (Nat.le_of_ble_eq_true (by kernel_rfl)) (by kernel_rfl) (by kernel_rfl) (s134_p4_ok K (st0 #[t0]) w @h)

/-! ### function 135 : (*e2e.engine.reader).ids -/
def s135_R (K : Value → World → Prop) (s : Nat → Value) (w : World) : Prop := retv Tryz.prog s Tryz.f135.results.toList (fun vs => K (pack vs) w) w
def s135_p1 (K : Value → World → Prop) (t4 : Value) (w : World) : Prop :=
  K t4 w
def s135_p1_den (K : Value → World → Prop) : (Nat → Value) → World → Prop := denL Tryz.prog [(cd (Tryz.f135.body.getD .skip) [1, 1, 1, 1, 1, 0]), (cd (Tryz.f135.body.getD .skip) [1, 1, 1, 1, 1, 1])] (fun _ _ => False) (fun i => (fun _ _ => False)) (s135_R K)
theorem s135_p1_ok (K : Value → World → Prop) (s : Nat → Value) (w : World) (h : s135_p1 K (s 4) w) : Tr (s135_p1_den K s w) :=
  tr_simple (P := Tryz.prog) (codes := [(cd (Tryz.f135.body.getD .skip) [1, 1, 1, 1, 1, 0]), (cd (Tryz.f135.body.getD .skip) [1, 1, 1, 1, 1, 1])]) (N := (fun _ _ => False)) (N' := (fun _ _ => False)) (X := (fun i => (fun _ _ => False))) (X' := (fun i => (fun _ _ => False))) (R := s135_R K) (s := s) (w := w) (p := s135_p1 K (s 4) w) (q := s135_p1_den K s w) tr_id (fun i => tr_id) (by kernel_rfl) (by kernel_rfl) @h
def s135_p2 (K : Value → World → Prop) (B1 : List Value → World → Prop) (t0 t4 t19 t20 : Value) (w : World) : Prop :=
  boI .lss t20 t19 (fun t21 w =>
  ifb t21
  (cl Tryz.prog 105 #[t0] (fun t26 w =>
  ixs 1 t4 t20 (fun t27 w =>
  st1 t27 t26 (fun w =>
  boI .add t20 (.int .i64 1) (fun t28 w =>
  B1 [t0, t4, t19, t28] w) w) w) w) w)
  (s135_p1 K t4 w)) w
def s135_p2_den (K : Value → World → Prop) (M1 : (Nat → Value) → World → Prop) : (Nat → Value) → World → Prop := denL Tryz.prog [(cd (Tryz.f135.body.getD .skip) [1, 1, 1, 1, 0, 1, 0, 0, 0]), (cd (Tryz.f135.body.getD .skip) [1, 1, 1, 1, 0, 1, 0, 0, 1, 0]), (cd (Tryz.f135.body.getD .skip) [1, 1, 1, 1, 0, 1, 0, 0, 1, 1, 0]), (cd (Tryz.f135.body.getD .skip) [1, 1, 1, 1, 0, 1, 0, 0, 1, 1, 1])] M1 (fun i => (bif Nat.beq i 0 then (s135_p1_den K) else (fun _ _ => False))) (s135_R K)
theorem s135_p2_ok (K : Value → World → Prop) (B1 : List Value → World → Prop) (s : Nat → Value) (w : World) (h : s135_p2 K B1 (s 0) (s 4) (s 19) (s 20) w) : Tr (s135_p2_den K (fun s w => B1 [s 0, s 4, s 19, s 20] w) s w) :=
  tr_simple (P := Tryz.prog) (codes := [(cd (Tryz.f135.body.getD .skip) [1, 1, 1, 1, 0, 1, 0, 0, 0]), (cd (Tryz.f135.body.getD .skip) [1, 1, 1, 1, 0, 1, 0, 0, 1, 0]), (cd (Tryz.f135.body.getD .skip) [1, 1, 1, 1, 0, 1, 0, 0, 1, 1, 0]), (cd (Tryz.f135.body.getD .skip) [1, 1, 1, 1, 0, 1, 0, 0, 1, 1, 1])]) (N := (fun s w => B1 [s 0, s 4, s 19, s 20] w)) (N' := (fun s w => B1 [s 0, s 4, s 19, s 20] w)) (X := (fun i => (bif Nat.beq i 0 then (fun s w => s135_p1 K (s 4) w) else (fun _ _ => False)))) (X' := (fun i => (bif Nat.beq i 0 then (s135_p1_den K) else (fun _ _ => False)))) (R := s135_R K) (s := s) (w := w) (p := s135_p2 K B1 (s 0) (s 4) (s 19) (s 20) w) (q := s135_p2_den K (fun s w => B1 [s 0, s 4, s 19, s 20] w) s w) tr_id (fun i => (tr_bif (fun s w h => s135_p1_ok K s w @h) tr_id)) (by kernel_rfl) (by kernel_rfl) @h
def s135_p3_F (K : Value → World → Prop) (B1 : List Value → World → Prop) (l : List Value) (w : World) : Prop :=
  match l with
  | [t0, t4, t19, t20] => s135_p2 K B1 t0 t4 t19 t20 w
  | _ => False
theorem s135_p3_Fe {K : Value → World → Prop} {B1 : List Value → World → Prop} {t0 t4 t19 t20 : Value} {w : World} : s135_p3_F K B1 [t0, t4, t19, t20] w = s135_p2 K B1 t0 t4 t19 t20 w := by kernel_rfl
def s135_p3 (K : Value → World → Prop) (t0 t4 t19 t20 : Value) (w : World) : Prop :=
  LoopL (s135_p3_F K) [t0, t4, t19, t20] w
def s135_p3_den (K : Value → World → Prop) : (Nat → Value) → World → Prop := fun s w => LoopP (fun M1 s w => s135_p2_den K M1 s w) s w
theorem s135_p3_ok (K : Value → World → Prop) (s : Nat → Value) (w : World) (h : s135_p3 K (s 0) (s 4) (s 19) (s 20) w) : Tr (s135_p3_den K s w) :=
  tr_loop (G := fun N' s w => s135_p2_den K N' s w) (F := s135_p3_F K) (sel := fun s => [s 0, s 4, s 19, s 20]) (s := s) (w := w) (p := s135_p3 K (s 0) (s 4) (s 19) (s 20) w) (q := s135_p3_den K s w) (fun B s w h => s135_p2_ok K B s w @h) (by kernel_rfl) (by kernel_rfl) @h
def s135_p4 (K : Value → World → Prop) (t0 : Value) (w : World) : Prop :=
  cl Tryz.prog 181 #[t0, (.int .i64 1)] (fun t7 w =>
  nck t0 (fun t9 w =>
  fd 2 t9 (fun t10 w =>
  ld1 t10 (fun t11 w =>
  gd t11 false (fun K w => K t7 w) (fun t13 w =>
  gd t11 false (boI .eql t13 (.int .i64 0)) (fun t14 w =>
  pk t11 (.bool true) t14 (fun t15 w =>
  ifb t15
  (K (.slice none 0 0) w)
  (mks 3 [(.int .i64 0)] 8 t7 t7 (fun t17 w =>
  lnS t17 (fun t19 w =>
  s135_p3 K t0 t17 t19 (.int .i64 0) w) w) w)) w) w) w) w) w) w) w
def s135_p4_den (K : Value → World → Prop) : (Nat → Value) → World → Prop := denL Tryz.prog [(cd (Tryz.f135.body.getD .skip) [0]), (cd (Tryz.f135.body.getD .skip) [1, 0]), (cd (Tryz.f135.body.getD .skip) [1, 1, 0, 0]), (cd (Tryz.f135.body.getD .skip) [1, 1, 0, 1]), (cd (Tryz.f135.body.getD .skip) [1, 1, 1, 0]), (cd (Tryz.f135.body.getD .skip) [1, 1, 1, 1, 0, 0])] (s135_p3_den K) (fun i => (fun _ _ => False)) (s135_R K)
theorem s135_p4_ok (K : Value → World → Prop) (s : Nat → Value) (w : World) (h : s135_p4 K (s 0) w) : Tr (s135_p4_den K s w) :=
  tr_simple (P := Tryz.prog) (codes := [(cd (Tryz.f135.body.getD .skip) [0]), (cd (Tryz.f135.body.getD .skip) [1, 0]), (cd (Tryz.f135.body.getD .skip) [1, 1, 0, 0]), (cd (Tryz.f135.body.getD .skip) [1, 1, 0, 1]), (cd (Tryz.f135.body.getD .skip) [1, 1, 1, 0]), (cd (Tryz.f135.body.getD .skip) [1, 1, 1, 1, 0, 0])]) (N := (fun s w => s135_p3 K (s 0) (s 4) (s 19) (s 20) w)) (N' := (s135_p3_den K)) (X := (fun i => (fun _ _ => False))) (X' := (fun i => (fun _ _ => False))) (R := s135_R K) (s := s) (w := w) (p := s135_p4 K (s 0) w) (q := s135_p4_den K s w) (fun s w h => s135_p3_ok K s w @h) (fun i => tr_id) (by kernel_rfl) (by kernel_rfl) @h
/-- the call, from the text -/
theorem c135 (t0 : Value) {K : Value → World → Prop} {w : World} (h : s135_p4 K t0 w) : cl Tryz.prog 135 #[t0] K w :=
  calls_of_tr (c := (Tryz.f135.body.getD .skip)) (fn := Tryz.f135) (q := s135_p4_den K (st0 #[t0]) w) Tryz.func135 (by kernel_rfl) (by kernel_rfl) (Nat.le_of_ble_eq_true (by kernel_rfl)) (by kernel_rfl) (by kernel_rfl) (s135_p4_ok K (st0 #[t0]) w @h)

/-! ### function 181 : (*e2e.engine.reader).count -/
def s181_R (K : Value → World → Prop) (s : Nat → Value) (w : World) : Prop := retv Tryz.prog s Tryz.f181.results.toList (fun vs => K (pack vs) w) w
def s181_p1 (K : Value → World → Prop) (t4 : Value) (w : World) : Prop :=
  K t4 w
def s181_p1_den (K : Value → World → Prop) : (Nat → Value) → World → Prop := denL Tryz.prog [(cd (Tryz.f181.body.getD .skip) [1, 1])] (fun _ _ => False) (fun i => (fun _ _ => False)) (s181_R K)
theorem s181_p1_ok (K : Value → World → Prop) (s : Nat → Value) (w : World) (h : s181_p1 K (s 4) w) : Tr (s181_p1_den K s w) :=
  tr_simple (P := Tryz.prog) (codes := [(cd (Tryz.f181.body.getD .skip) [1, 1])]) (N := (fun _ _ => False)) (N' := (fun _ _ => False)) (X := (fun i => (fun _ _ => False))) (X' := (fun i => (fun _ _ => False))) (R := s181_R K) (s := s) (w := w) (p := s181_p1 K (s 4) w) (q := s181_p1_den K s w) tr_id (fun i => tr_id) (by kernel_rfl) (by kernel_rfl) @h
def s181_p2_d (K : Value → World → Prop) (t0 t1 : Value) (w0 w : World) : Prop :=
  nck t0 (fun t7 _ =>
  fd 0 t7 (fun t8 _ =>
  ld1 t8 (fun t9 _ =>
  lnS t9 (fun t10 _ =>
  nck t0 (fun t12 _ =>
  fd 1 t12 (fun t13 _ =>
  ld1 t13 (fun t14 _ =>
  boI .sub t10 t14 (fun t15 _ =>
  boI .quo t15 t1 (fun t17 _ =>
  cl Tryz.prog 131 #[t0, t17] (fun t18 w =>
  s181_p1 K t18 w) w) w0) w0) w0) w0) w0) w0) w0) w0) w0
def s181_p2 (K : Value → World → Prop) (t0 t1 : Value) (w : World) : Prop := s181_p2_d K t0 t1 (drw w) (drw w)
def s181_p2_den (K : Value → World → Prop) : (Nat → Value) → World → Prop := denL Tryz.prog [(cd (Tryz.f181.body.getD .skip) [1, 0])] (s181_p1_den K) (fun i => (fun _ _ => False)) (s181_R K)
theorem s181_p2_ok (K : Value → World → Prop) (s : Nat → Value) (w : World) (h : s181_p2 K (s 0) (s 1) w) : Tr (s181_p2_den K s w) :=
  tr_draw (P := Tryz.prog) (ops := (ro (cd (Tryz.f181.body.getD .skip) [1, 0]))) (ms := [0, 0, 2, 6, 14, 30, 0, 64, 192, 448, 1022, 0, 4094, 8191, 16383]) (cs := [0, 1, 2, 3, 4, 5, 6, 7, 8, 9, 10, 11, 12]) (N := (fun s w => s181_p1 K (s 4) w)) (N' := (s181_p1_den K)) (s := s) (w := w) (p := s181_p2 K (s 0) (s 1) w) (q := s181_p2_den K s w) (by kernel_rfl) (by kernel_rfl) (fun s w h => s181_p1_ok K s w @h) (by kernel_rfl) (by kernel_rfl) @h
def s181_p3 (K : Value → World → Prop) (t0 t1 : Value) (w : World) : Prop :=
  s181_p2 K t0 t1 w
def s181_p3_den (K : Value → World → Prop) : (Nat → Value) → World → Prop := denL Tryz.prog [(cd (Tryz.f181.body.getD .skip) [0])] (s181_p2_den K) (fun i => (fun _ _ => False)) (s181_R K)
theorem s181_p3_ok (K : Value → World → Prop) (s : Nat → Value) (w : World) (h : s181_p3 K (s 0) (s 1) w) : Tr (s181_p3_den K s w) :=
  tr_simple (P := Tryz.prog) (codes := [(cd (Tryz.f181.body.getD .skip) [0])]) (N := (fun s w => s181_p2 K (s 0) (s 1) w)) (N' := (s181_p2_den K)) (X := (fun i => (fun _ _ => False))) (X' := (fun i => (fun _ _ => False))) (R := s181_R K) (s := s) (w := w) (p := s181_p3 K (s 0) (s 1) w) (q := s181_p3_den K s w) (fun s w h => s181_p2_ok K s w @h) (fun i => tr_id) (by kernel_rfl) (by kernel_rfl) @h
/-- the call, from the text -/
theorem c181 (t0 t1 : Value) {K : Value → World → Prop} {w : World} (h : s181_p3 K t0 t1 w) : cl Tryz.prog 181 #[t0, t1] K w :=
  calls_of_tr (c := (Tryz.f181.body.getD .skip)) (fn := Tryz.f181) (q := s181_p3_den K (st0 #[t0, t1]) w) Tryz.func181 (by kernel_rfl) (by kernel_rfl) (Nat.le_of_ble_eq_true (by kernel_rfl)) (by kernel_rfl) (by kernel_rfl) (s181_p3_ok K (st0 #[t0, t1]) w @h)

/-! ### function 201 : (*e2e.engine.reader).rest -/
def s201_R (K : Value → World → Prop) (s : Nat → Value) (w : World) : Prop := retv Tryz.prog s Tryz.f201.results.toList (fun vs => K (pack vs) w) w
def s201_p1 (K : Value → World → Prop) (t0 t3 : Value) (w : World) : Prop :=
  nck t0 (fun t15 w =>
  fd 0 t15 (fun t16 w =>
  ld1 t16 (fun t17 w =>
  lnS t17 (fun t18 w =>
  nck t0 (fun t19 w =>
  fd 1 t19 (fun t20 w =>
  st1 t20 t18 (fun w =>
  K t3 w) w) w) w) w) w) w) w
def s201_p1_den (K : Value → World → Prop) : (Nat → Value) → World → Prop := denL Tryz.prog [(cd (Tryz.f201.body.getD .skip) [1, 1, 0]), (cd (Tryz.f201.body.getD .skip) [1, 1, 1, 0]), (cd (Tryz.f201.body.getD .skip) [1, 1, 1, 1])] (fun _ _ => False) (fun i => (fun _ _ => False)) (s201_R K)
theorem s201_p1_ok (K : Value → World → Prop) (s : Nat → Value) (w : World) (h : s201_p1 K (s 0) (s 3) w) : Tr (s201_p1_den K s w) :=
  tr_simple (P := Tryz.prog) (codes := [(cd (Tryz.f201.body.getD .skip) [1, 1, 0]), (cd (Tryz.f201.body.getD .skip) [1, 1, 1, 0]), (cd (Tryz.f201.body.getD .skip) [1, 1, 1, 1])]) (N := (fun _ _ => False)) (N' := (fun _ _ => False)) (X := (fun i => (fun _ _ => False))) (X' := (fun i => (fun _ _ => False))) (R := s201_R K) (s := s) (w := w) (p := s201_p1 K (s 0) (s 3) w) (q := s201_p1_den K s w) tr_id (fun i => tr_id) (by kernel_rfl) (by kernel_rfl) @h
def s201_p2_d (K : Value → World → Prop) (t0 : Value) (w0 w : World) : Prop :=
  nck t0 (fun t5 _ =>
  fd 0 t5 (fun t6 _ =>
  ld1 t6 (fun t7 _ =>
  nck t0 (fun t9 _ =>
  fd 1 t9 (fun t10 _ =>
  ld1 t10 (fun t11 _ =>
  sls 1 t7 (some t11) none (fun t12 _ =>
  s201_p1 K t0 t12 w) w0) w0) w0) w0) w0) w0) w0
def s201_p2 (K : Value → World → Prop) (t0 : Value) (w : World) : Prop := s201_p2_d K t0 (drw w) (drw w)
def s201_p2_den (K : Value → World → Prop) : (Nat → Value) → World → Prop := denL Tryz.prog [(cd (Tryz.f201.body.getD .skip) [1, 0])] (s201_p1_den K) (fun i => (fun _ _ => False)) (s201_R K)
theorem s201_p2_ok (K : Value → World → Prop) (s : Nat → Value) (w : World) (h : s201_p2 K (s 0) w) : Tr (s201_p2_den K s w) :=
  tr_draw (P := Tryz.prog) (ops := (ro (cd (Tryz.f201.body.getD .skip) [1, 0]))) (ms := [0, 1, 3, 7, 0, 16, 48, 112, 255, 511]) (cs := [0, 1, 2, 3, 4, 5, 6, 7, 8, 9]) (N := (fun s w => s201_p1 K (s 0) (s 3) w)) (N' := (s201_p1_den K)) (s := s) (w := w) (p := s201_p2 K (s 0) w) (q := s201_p2_den K s w) (by kernel_rfl) (by kernel_rfl) (fun s w h => s201_p1_ok K s w @h) (by kernel_rfl) (by kernel_rfl) @h
def s201_p3 (K : Value → World → Prop) (t0 : Value) (w : World) : Prop :=
  s201_p2 K t0 w
def s201_p3_den (K : Value → World → Prop) : (Nat → Value) → World → Prop := denL Tryz.prog [(cd (Tryz.f201.body.getD .skip) [0])] (s201_p2_den K) (fun i => (fun _ _ => False)) (s201_R K)
theorem s201_p3_ok (K : Value → World → Prop) (s : Nat → Value) (w : World) (h : s201_p3 K (s 0) w) : Tr (s201_p3_den K s w) :=
  tr_simple (P := Tryz.prog) (codes := [(cd (Tryz.f201.body.getD .skip) [0])]) (N := (fun s w => s201_p2 K (s 0) w)) (N' := (s201_p2_den K)) (X := (fun i => (fun _ _ => False))) (X' := (fun i => (fun _ _ => False))) (R := s201_R K) (s := s) (w := w) (p := s201_p3 K (s 0) w) (q := s201_p3_den K s w) (fun s w h => s201_p2_ok K s w @h) (fun i => tr_id) (by kernel_rfl) (by kernel_rfl) @h
/-- the call, from the text -/
theorem c201 (t0 : Value) {K : Value → World → Prop} {w : World} (h : s201_p3 K t0 w) : cl Tryz.prog 201 #[t0] K w :=
  calls_of_tr (c := (Tryz.f201.body.getD .skip)) (fn := Tryz.f201) (q := s201_p3_den K (st0 #[t0]) w) Tryz.func201 (by kernel_rfl) (by kernel_rfl) (Nat.le_of_ble_eq_true (by kernel_rfl)) (by kernel_rfl) (by kernel_rfl) (s201_p3_ok K (st0 #[t0]) w @h)

/-! ### function 28 : e2e.engine.DecodeRequest -/
def s28_R (K : Value → World → Prop) (s : Nat → Value) (w : World) : Prop := retv Tryz.prog s Tryz.f28.results.toList (fun vs => K (pack vs) w) w
def s28_p1 (K : Value → World → Prop) (t2 t4 t5 : Value) (w : World) : Prop :=
  cl Tryz.prog 108 #[t4] (fun t76 w =>
  un .not t76 (fun t77 w =>
  ifb t77
  (bdq [(.int .u8 0), (.int .i64 0), (.int .i64 0), (.int .i64 0), (.int .i64 0), (.int .i64 0), (.int .i64 0), (.slice none 0 0)] [] (fun t78 w =>
  stn 8 t2 t78 (fun w =>
  ldn 8 t2 (fun r0 _ =>
  K (.tuple #[r0, (.int .i64 1)]) w) w) w) w)
  (ldn 8 t5 (fun t79 w =>
  stn 8 t2 t79 (fun w =>
  ldn 8 t2 (fun r0 _ =>
  K (.tuple #[r0, (.int .i64 0)]) w) w) w) w)) w) w
def s28_p1_den (K : Value → World → Prop) : (Nat → Value) → World → Prop := denL Tryz.prog [(cd (Tryz.f28.body.getD .skip) [1, 1, 1, 1, 0, 0]), (cd (Tryz.f28.body.getD .skip) [1, 1, 1, 1, 0, 1]), (cd (Tryz.f28.body.getD .skip) [1, 1, 1, 1, 1, 0]), (cd (Tryz.f28.body.getD .skip) [1, 1, 1, 1, 1, 1])] (fun _ _ => False) (fun i => (fun _ _ => False)) (s28_R K)
theorem s28_p1_ok (K : Value → World → Prop) (s : Nat → Value) (w : World) (h : s28_p1 K (s 2) (s 4) (s 5) w) : Tr (s28_p1_den K s w) :=
  tr_simple (P := Tryz.prog) (codes := [(cd (Tryz.f28.body.getD .skip) [1, 1, 1, 1, 0, 0]), (cd (Tryz.f28.body.getD .skip) [1, 1, 1, 1, 0, 1]), (cd (Tryz.f28.body.getD .skip) [1, 1, 1, 1, 1, 0]), (cd (Tryz.f28.body.getD .skip) [1, 1, 1, 1, 1, 1])]) (N := (fun _ _ => False)) (N' := (fun _ _ => False)) (X := (fun i => (fun _ _ => False))) (X' := (fun i => (fun _ _ => False))) (R := s28_R K) (s := s) (w := w) (p := s28_p1 K (s 2) (s 4) (s 5) w) (q := s28_p1_den K s w) tr_id (fun i => tr_id) (by kernel_rfl) (by kernel_rfl) @h
def s28_p2 (K : Value → World → Prop) (t0 : Value) (w : World) : Prop :=
  nw 52 #[(.int .u8 0), (.int .i64 0), (.int .i64 0), (.int .i64 0), (.int .i64 0), (.int .i64 0), (.int .i64 0), (.slice none 0 0)] (fun t2 w =>
  bdq [(.slice none 0 0), (.int .i64 0), (.bool false)] [(some (0, 1), t0)] (fun t7 w =>
  nw 139 #[(.slice none 0 0), (.int .i64 0), (.bool false)] (fun t4 w =>
  stn 3 t4 t7 (fun w =>
  cl Tryz.prog 104 #[t4] (fun t8 w =>
  bdq [(.int .u8 0), (.int .i64 0), (.int .i64 0), (.int .i64 0), (.int .i64 0), (.int .i64 0), (.int .i64 0), (.slice none 0 0)] [(some (0, 1), t8)] (fun t9 w =>
  nw 52 #[(.int .u8 0), (.int .i64 0), (.int .i64 0), (.int .i64 0), (.int .i64 0), (.int .i64 0), (.int .i64 0), (.slice none 0 0)] (fun t5 w =>
  stn 8 t5 t9 (fun w =>
  fd 0 t5 (fun t10 w =>
  ld1 t10 (fun t11 w =>
  boI .eql t11 (.int .u8 1) (fun t14 w =>
  ifb t14
  (ifb t14
  (cl Tryz.prog 105 #[t4] (fun t16 w =>
  fd 4 t5 (fun t17 w =>
  st1 t17 t16 (fun w =>
  cl Tryz.prog 105 #[t4] (fun t18 w =>
  fd 5 t5 (fun t19 w =>
  st1 t19 t18 (fun w =>
  cl Tryz.prog 106 #[t4, (.int .i64 8)] (fun t20 w =>
  fd 7 t5 (fun t21 w =>
  st1 t21 t20 (fun w =>
  s28_p1 K t2 t4 t5 w) w) w) w) w) w) w) w) w) w)
  (boI .eql t11 (.int .u8 5) (fun t23 w =>
  ifb t23
  (cl Tryz.prog 105 #[t4] (fun t24 w =>
  fd 1 t5 (fun t25 w =>
  st1 t25 t24 (fun w =>
  cl Tryz.prog 106 #[t4, (.int .i64 8)] (fun t26 w =>
  fd 7 t5 (fun t27 w =>
  st1 t27 t26 (fun w =>
  s28_p1 K t2 t4 t5 w) w) w) w) w) w) w)
  (boI .eql t11 (.int .u8 6) (fun t29 w =>
  ifb t29
  (cl Tryz.prog 105 #[t4] (fun t30 w =>
  fd 2 t5 (fun t31 w =>
  st1 t31 t30 (fun w =>
  cl Tryz.prog 105 #[t4] (fun t32 w =>
  fd 4 t5 (fun t33 w =>
  st1 t33 t32 (fun w =>
  cl Tryz.prog 105 #[t4] (fun t34 w =>
  fd 5 t5 (fun t35 w =>
  st1 t35 t34 (fun w =>
  s28_p1 K t2 t4 t5 w) w) w) w) w) w) w) w) w) w)
  (boI .eql t11 (.int .u8 2) (fun t37 w =>
  ifb t37
  (ifb t37
  (cl Tryz.prog 105 #[t4] (fun t44 w =>
  fd 1 t5 (fun t45 w =>
  st1 t45 t44 (fun w =>
  s28_p1 K t2 t4 t5 w) w) w) w)
  (boI .eql t11 (.int .u8 17) (fun t47 w =>
  ifb t47
  (cl Tryz.prog 105 #[t4] (fun t48 w =>
  fd 1 t5 (fun t49 w =>
  st1 t49 t48 (fun w =>
  cl Tryz.prog 105 #[t4] (fun t50 w =>
  fd 6 t5 (fun t51 w =>
  st1 t51 t50 (fun w =>
  s28_p1 K t2 t4 t5 w) w) w) w) w) w) w)
  (boI .eql t11 (.int .u8 18) (fun t53 w =>
  ifb t53
  (cl Tryz.prog 105 #[t4] (fun t54 w =>
  fd 2 t5 (fun t55 w =>
  st1 t55 t54 (fun w =>
  cl Tryz.prog 105 #[t4] (fun t56 w =>
  fd 3 t5 (fun t57 w =>
  st1 t57 t56 (fun w =>
  s28_p1 K t2 t4 t5 w) w) w) w) w) w) w)
  (boI .eql t11 (.int .u8 19) (fun t59 w =>
  ifb t59
  (cl Tryz.prog 105 #[t4] (fun t60 w =>
  fd 2 t5 (fun t61 w =>
  st1 t61 t60 (fun w =>
  s28_p1 K t2 t4 t5 w) w) w) w)
  (boI .eql t11 (.int .u8 21) (fun t63 w =>
  ifb t63
  (cl Tryz.prog 105 #[t4] (fun t64 w =>
  fd 2 t5 (fun t65 w =>
  st1 t65 t64 (fun w =>
  cl Tryz.prog 105 #[t4] (fun t66 w =>
  fd 4 t5 (fun t67 w =>
  st1 t67 t66 (fun w =>
  cl Tryz.prog 105 #[t4] (fun t68 w =>
  fd 5 t5 (fun t69 w =>
  st1 t69 t68 (fun w =>
  cl Tryz.prog 105 #[t4] (fun t70 w =>
  fd 3 t5 (fun t71 w =>
  st1 t71 t70 (fun w =>
  s28_p1 K t2 t4 t5 w) w) w) w) w) w) w) w) w) w) w) w) w)
  (boI .eql t11 (.int .u8 9) (fun t73 w =>
  ifb t73
  (ifb t73
  (s28_p1 K t2 t4 t5 w)
  (cl Tryz.prog 107 #[t4] (fun t12 w =>
  s28_p1 K t2 t4 t5 w) w))
  (boI .eql t11 (.int .u8 20) (fun t74 w =>
  ifb t74
  (ifb t74
  (s28_p1 K t2 t4 t5 w)
  (cl Tryz.prog 107 #[t4] (fun t12_2 w =>
  s28_p1 K t2 t4 t5 w) w))
  (boI .eql t11 (.int .u8 23) (fun t75 w =>
  ifb t75
  (s28_p1 K t2 t4 t5 w)
  (cl Tryz.prog 107 #[t4] (fun t12_3 w =>
  s28_p1 K t2 t4 t5 w) w)) w)) w)) w)) w)) w)) w)) w))
  (boI .eql t11 (.int .u8 3) (fun t38 w =>
  ifb t38
  (ifb t38
  (cl Tryz.prog 105 #[t4] (fun t44_2 w =>
  fd 1 t5 (fun t45_2 w =>
  st1 t45_2 t44_2 (fun w =>
  s28_p1 K t2 t4 t5 w) w) w) w)
  (boI .eql t11 (.int .u8 17) (fun t47_2 w =>
  ifb t47_2
  (cl Tryz.prog 105 #[t4] (fun t48_2 w =>
  fd 1 t5 (fun t49_2 w =>
  st1 t49_2 t48_2 (fun w =>
  cl Tryz.prog 105 #[t4] (fun t50_2 w =>
  fd 6 t5 (fun t51_2 w =>
  st1 t51_2 t50_2 (fun w =>
  s28_p1 K t2 t4 t5 w) w) w) w) w) w) w)
  (boI .eql t11 (.int .u8 18) (fun t53_2 w =>
  ifb t53_2
  (cl Tryz.prog 105 #[t4] (fun t54_2 w =>
  fd 2 t5 (fun t55_2 w =>
  st1 t55_2 t54_2 (fun w =>
  cl Tryz.prog 105 #[t4] (fun t56_2 w =>
  fd 3 t5 (fun t57_2 w =>
  st1 t57_2 t56_2 (fun w =>
  s28_p1 K t2 t4 t5 w) w) w) w) w) w) w)
  (boI .eql t11 (.int .u8 19) (fun t59_2 w =>
  ifb t59_2
  (cl Tryz.prog 105 #[t4] (fun t60_2 w =>
  fd 2 t5 (fun t61_2 w =>
  st1 t61_2 t60_2 (fun w =>
  s28_p1 K t2 t4 t5 w) w) w) w)
  (boI .eql t11 (.int .u8 21) (fun t63_2 w =>
  ifb t63_2
  (cl Tryz.prog 105 #[t4] (fun t64_2 w =>
  fd 2 t5 (fun t65_2 w =>
  st1 t65_2 t64_2 (fun w =>
  cl Tryz.prog 105 #[t4] (fun t66_2 w =>
  fd 4 t5 (fun t67_2 w =>
  st1 t67_2 t66_2 (fun w =>
  cl Tryz.prog 105 #[t4] (fun t68_2 w =>
  fd 5 t5 (fun t69_2 w =>
  st1 t69_2 t68_2 (fun w =>
  cl Tryz.prog 105 #[t4] (fun t70_2 w =>
  fd 3 t5 (fun t71_2 w =>
  st1 t71_2 t70_2 (fun w =>
  s28_p1 K t2 t4 t5 w) w) w) w) w) w) w) w) w) w) w) w) w)
  (boI .eql t11 (.int .u8 9) (fun t73_2 w =>
  ifb t73_2
  (ifb t73_2
  (s28_p1 K t2 t4 t5 w)
  (cl Tryz.prog 107 #[t4] (fun t12_4 w =>
  s28_p1 K t2 t4 t5 w) w))
  (boI .eql t11 (.int .u8 20) (fun t74_2 w =>
  ifb t74_2
  (ifb t74_2
  (s28_p1 K t2 t4 t5 w)
  (cl Tryz.prog 107 #[t4] (fun t12_5 w =>
  s28_p1 K t2 t4 t5 w) w))
  (boI .eql t11 (.int .u8 23) (fun t75_2 w =>
  ifb t75_2
  (s28_p1 K t2 t4 t5 w)
  (cl Tryz.prog 107 #[t4] (fun t12_6 w =>
  s28_p1 K t2 t4 t5 w) w)) w)) w)) w)) w)) w)) w)) w))
  (boI .eql t11 (.int .u8 4) (fun t39 w =>
  ifb t39
  (ifb t39
  (cl Tryz.prog 105 #[t4] (fun t44_3 w =>
  fd 1 t5 (fun t45_3 w =>
  st1 t45_3 t44_3 (fun w =>
  s28_p1 K t2 t4 t5 w) w) w) w)
  (boI .eql t11 (.int .u8 17) (fun t47_3 w =>
  ifb t47_3
  (cl Tryz.prog 105 #[t4] (fun t48_3 w =>
  fd 1 t5 (fun t49_3 w =>
  st1 t49_3 t48_3 (fun w =>
  cl Tryz.prog 105 #[t4] (fun t50_3 w =>
  fd 6 t5 (fun t51_3 w =>
  st1 t51_3 t50_3 (fun w =>
  s28_p1 K t2 t4 t5 w) w) w) w) w) w) w)
  (boI .eql t11 (.int .u8 18) (fun t53_3 w =>
  ifb t53_3
  (cl Tryz.prog 105 #[t4] (fun t54_3 w =>
  fd 2 t5 (fun t55_3 w =>
  st1 t55_3 t54_3 (fun w =>
  cl Tryz.prog 105 #[t4] (fun t56_3 w =>
  fd 3 t5 (fun t57_3 w =>
  st1 t57_3 t56_3 (fun w =>
  s28_p1 K t2 t4 t5 w) w) w) w) w) w) w)
  (boI .eql t11 (.int .u8 19) (fun t59_3 w =>
  ifb t59_3
  (cl Tryz.prog 105 #[t4] (fun t60_3 w =>
  fd 2 t5 (fun t61_3 w =>
  st1 t61_3 t60_3 (fun w =>
  s28_p1 K t2 t4 t5 w) w) w) w)
  (boI .eql t11 (.int .u8 21) (fun t63_3 w =>
  ifb t63_3
  (cl Tryz.prog 105 #[t4] (fun t64_3 w =>
  fd 2 t5 (fun t65_3 w =>
  st1 t65_3 t64_3 (fun w =>
  cl Tryz.prog 105 #[t4] (fun t66_3 w =>
  fd 4 t5 (fun t67_3 w =>
  st1 t67_3 t66_3 (fun w =>
  cl Tryz.prog 105 #[t4] (fun t68_3 w =>
  fd 5 t5 (fun t69_3 w =>
  st1 t69_3 t68_3 (fun w =>
  cl Tryz.prog 105 #[t4] (fun t70_3 w =>
  fd 3 t5 (fun t71_3 w =>
  st1 t71_3 t70_3 (fun w =>
  s28_p1 K t2 t4 t5 w) w) w) w) w) w) w) w) w) w) w) w) w)
  (boI .eql t11 (.int .u8 9) (fun t73_3 w =>
  ifb t73_3
  (ifb t73_3
  (s28_p1 K t2 t4 t5 w)
  (cl Tryz.prog 107 #[t4] (fun t12_7 w =>
  s28_p1 K t2 t4 t5 w) w))
  (boI .eql t11 (.int .u8 20) (fun t74_3 w =>
  ifb t74_3
  (ifb t74_3
  (s28_p1 K t2 t4 t5 w)
  (cl Tryz.prog 107 #[t4] (fun t12_8 w =>
  s28_p1 K t2 t4 t5 w) w))
  (boI .eql t11 (.int .u8 23) (fun t75_3 w =>
  ifb t75_3
  (s28_p1 K t2 t4 t5 w)
  (cl Tryz.prog 107 #[t4] (fun t12_9 w =>
  s28_p1 K t2 t4 t5 w) w)) w)) w)) w)) w)) w)) w)) w))
  (boI .eql t11 (.int .u8 7) (fun t40 w =>
  ifb t40
  (ifb t40
  (cl Tryz.prog 105 #[t4] (fun t44_4 w =>
  fd 1 t5 (fun t45_4 w =>
  st1 t45_4 t44_4 (fun w =>
  s28_p1 K t2 t4 t5 w) w) w) w)
  (boI .eql t11 (.int .u8 17) (fun t47_4 w =>
  ifb t47_4
  (cl Tryz.prog 105 #[t4] (fun t48_4 w =>
  fd 1 t5 (fun t49_4 w =>
  st1 t49_4 t48_4 (fun w =>
  cl Tryz.prog 105 #[t4] (fun t50_4 w =>
  fd 6 t5 (fun t51_4 w =>
  st1 t51_4 t50_4 (fun w =>
  s28_p1 K t2 t4 t5 w) w) w) w) w) w) w)
  (boI .eql t11 (.int .u8 18) (fun t53_4 w =>
  ifb t53_4
  (cl Tryz.prog 105 #[t4] (fun t54_4 w =>
  fd 2 t5 (fun t55_4 w =>
  st1 t55_4 t54_4 (fun w =>
  cl Tryz.prog 105 #[t4] (fun t56_4 w =>
  fd 3 t5 (fun t57_4 w =>
  st1 t57_4 t56_4 (fun w =>
  s28_p1 K t2 t4 t5 w) w) w) w) w) w) w)
  (boI .eql t11 (.int .u8 19) (fun t59_4 w =>
  ifb t59_4
  (cl Tryz.prog 105 #[t4] (fun t60_4 w =>
  fd 2 t5 (fun t61_4 w =>
  st1 t61_4 t60_4 (fun w =>
  s28_p1 K t2 t4 t5 w) w) w) w)
  (boI .eql t11 (.int .u8 21) (fun t63_4 w =>
  ifb t63_4
  (cl Tryz.prog 105 #[t4] (fun t64_4 w =>
  fd 2 t5 (fun t65_4 w =>
  st1 t65_4 t64_4 (fun w =>
  cl Tryz.prog 105 #[t4] (fun t66_4 w =>
  fd 4 t5 (fun t67_4 w =>
  st1 t67_4 t66_4 (fun w =>
  cl Tryz.prog 105 #[t4] (fun t68_4 w =>
  fd 5 t5 (fun t69_4 w =>
  st1 t69_4 t68_4 (fun w =>
  cl Tryz.prog 105 #[t4] (fun t70_4 w =>
  fd 3 t5 (fun t71_4 w =>
  st1 t71_4 t70_4 (fun w =>
  s28_p1 K t2 t4 t5 w) w) w) w) w) w) w) w) w) w) w) w) w)
  (boI .eql t11 (.int .u8 9) (fun t73_4 w =>
  ifb t73_4
  (ifb t73_4
  (s28_p1 K t2 t4 t5 w)
  (cl Tryz.prog 107 #[t4] (fun t12_10 w =>
  s28_p1 K t2 t4 t5 w) w))
  (boI .eql t11 (.int .u8 20) (fun t74_4 w =>
  ifb t74_4
  (ifb t74_4
  (s28_p1 K t2 t4 t5 w)
  (cl Tryz.prog 107 #[t4] (fun t12_11 w =>
  s28_p1 K t2 t4 t5 w) w))
  (boI .eql t11 (.int .u8 23) (fun t75_4 w =>
  ifb t75_4
  (s28_p1 K t2 t4 t5 w)
  (cl Tryz.prog 107 #[t4] (fun t12_12 w =>
  s28_p1 K t2 t4 t5 w) w)) w)) w)) w)) w)) w)) w)) w))
  (boI .eql t11 (.int .u8 8) (fun t41 w =>
  ifb t41
  (ifb t41
  (cl Tryz.prog 105 #[t4] (fun t44_5 w =>
  fd 1 t5 (fun t45_5 w =>
  st1 t45_5 t44_5 (fun w =>
  s28_p1 K t2 t4 t5 w) w) w) w)
  (boI .eql t11 (.int .u8 17) (fun t47_5 w =>
  ifb t47_5
  (cl Tryz.prog 105 #[t4] (fun t48_5 w =>
  fd 1 t5 (fun t49_5 w =>
  st1 t49_5 t48_5 (fun w =>
  cl Tryz.prog 105 #[t4] (fun t50_5 w =>
  fd 6 t5 (fun t51_5 w =>
  st1 t51_5 t50_5 (fun w =>
  s28_p1 K t2 t4 t5 w) w) w) w) w) w) w)
  (boI .eql t11 (.int .u8 18) (fun t53_5 w =>
  ifb t53_5
  (cl Tryz.prog 105 #[t4] (fun t54_5 w =>
  fd 2 t5 (fun t55_5 w =>
  st1 t55_5 t54_5 (fun w =>
  cl Tryz.prog 105 #[t4] (fun t56_5 w =>
  fd 3 t5 (fun t57_5 w =>
  st1 t57_5 t56_5 (fun w =>
  s28_p1 K t2 t4 t5 w) w) w) w) w) w) w)
  (boI .eql t11 (.int .u8 19) (fun t59_5 w =>
  ifb t59_5
  (cl Tryz.prog 105 #[t4] (fun t60_5 w =>
  fd 2 t5 (fun t61_5 w =>
  st1 t61_5 t60_5 (fun w =>
  s28_p1 K t2 t4 t5 w) w) w) w)
  (boI .eql t11 (.int .u8 21) (fun t63_5 w =>
  ifb t63_5
  (cl Tryz.prog 105 #[t4] (fun t64_5 w =>
  fd 2 t5 (fun t65_5 w =>
  st1 t65_5 t64_5 (fun w =>
  cl Tryz.prog 105 #[t4] (fun t66_5 w =>
  fd 4 t5 (fun t67_5 w =>
  st1 t67_5 t66_5 (fun w =>
  cl Tryz.prog 105 #[t4] (fun t68_5 w =>
  fd 5 t5 (fun t69_5 w =>
  st1 t69_5 t68_5 (fun w =>
  cl Tryz.prog 105 #[t4] (fun t70_5 w =>
  fd 3 t5 (fun t71_5 w =>
  st1 t71_5 t70_5 (fun w =>
  s28_p1 K t2 t4 t5 w) w) w) w) w) w) w) w) w) w) w) w) w)
  (boI .eql t11 (.int .u8 9) (fun t73_5 w =>
  ifb t73_5
  (ifb t73_5
  (s28_p1 K t2 t4 t5 w)
  (cl Tryz.prog 107 #[t4] (fun t12_13 w =>
  s28_p1 K t2 t4 t5 w) w))
  (boI .eql t11 (.int .u8 20) (fun t74_5 w =>
  ifb t74_5
  (ifb t74_5
  (s28_p1 K t2 t4 t5 w)
  (cl Tryz.prog 107 #[t4] (fun t12_14 w =>
  s28_p1 K t2 t4 t5 w) w))
  (boI .eql t11 (.int .u8 23) (fun t75_5 w =>
  ifb t75_5
  (s28_p1 K t2 t4 t5 w)
  (cl Tryz.prog 107 #[t4] (fun t12_15 w =>
  s28_p1 K t2 t4 t5 w) w)) w)) w)) w)) w)) w)) w)) w))
  (boI .eql t11 (.int .u8 16) (fun t42 w =>
  ifb t42
  (ifb t42
  (cl Tryz.prog 105 #[t4] (fun t44_6 w =>
  fd 1 t5 (fun t45_6 w =>
  st1 t45_6 t44_6 (fun w =>
  s28_p1 K t2 t4 t5 w) w) w) w)
  (boI .eql t11 (.int .u8 17) (fun t47_6 w =>
  ifb t47_6
  (cl Tryz.prog 105 #[t4] (fun t48_6 w =>
  fd 1 t5 (fun t49_6 w =>
  st1 t49_6 t48_6 (fun w =>
  cl Tryz.prog 105 #[t4] (fun t50_6 w =>
  fd 6 t5 (fun t51_6 w =>
  st1 t51_6 t50_6 (fun w =>
  s28_p1 K t2 t4 t5 w) w) w) w) w) w) w)
  (boI .eql t11 (.int .u8 18) (fun t53_6 w =>
  ifb t53_6
  (cl Tryz.prog 105 #[t4] (fun t54_6 w =>
  fd 2 t5 (fun t55_6 w =>
  st1 t55_6 t54_6 (fun w =>
  cl Tryz.prog 105 #[t4] (fun t56_6 w =>
  fd 3 t5 (fun t57_6 w =>
  st1 t57_6 t56_6 (fun w =>
  s28_p1 K t2 t4 t5 w) w) w) w) w) w) w)
  (boI .eql t11 (.int .u8 19) (fun t59_6 w =>
  ifb t59_6
  (cl Tryz.prog 105 #[t4] (fun t60_6 w =>
  fd 2 t5 (fun t61_6 w =>
  st1 t61_6 t60_6 (fun w =>
  s28_p1 K t2 t4 t5 w) w) w) w)
  (boI .eql t11 (.int .u8 21) (fun t63_6 w =>
  ifb t63_6
  (cl Tryz.prog 105 #[t4] (fun t64_6 w =>
  fd 2 t5 (fun t65_6 w =>
  st1 t65_6 t64_6 (fun w =>
  cl Tryz.prog 105 #[t4] (fun t66_6 w =>
  fd 4 t5 (fun t67_6 w =>
  st1 t67_6 t66_6 (fun w =>
  cl Tryz.prog 105 #[t4] (fun t68_6 w =>
  fd 5 t5 (fun t69_6 w =>
  st1 t69_6 t68_6 (fun w =>
  cl Tryz.prog 105 #[t4] (fun t70_6 w =>
  fd 3 t5 (fun t71_6 w =>
  st1 t71_6 t70_6 (fun w =>
  s28_p1 K t2 t4 t5 w) w) w) w) w) w) w) w) w) w) w) w) w)
  (boI .eql t11 (.int .u8 9) (fun t73_6 w =>
  ifb t73_6
  (ifb t73_6
  (s28_p1 K t2 t4 t5 w)
  (cl Tryz.prog 107 #[t4] (fun t12_16 w =>
  s28_p1 K t2 t4 t5 w) w))
  (boI .eql t11 (.int .u8 20) (fun t74_6 w =>
  ifb t74_6
  (ifb t74_6
  (s28_p1 K t2 t4 t5 w)
  (cl Tryz.prog 107 #[t4] (fun t12_17 w =>
  s28_p1 K t2 t4 t5 w) w))
  (boI .eql t11 (.int .u8 23) (fun t75_6 w =>
  ifb t75_6
  (s28_p1 K t2 t4 t5 w)
  (cl Tryz.prog 107 #[t4] (fun t12_18 w =>
  s28_p1 K t2 t4 t5 w) w)) w)) w)) w)) w)) w)) w)) w))
  (boI .eql t11 (.int .u8 24) (fun t43 w =>
  ifb t43
  (cl Tryz.prog 105 #[t4] (fun t44_7 w =>
  fd 1 t5 (fun t45_7 w =>
  st1 t45_7 t44_7 (fun w =>
  s28_p1 K t2 t4 t5 w) w) w) w)
  (boI .eql t11 (.int .u8 17) (fun t47_7 w =>
  ifb t47_7
  (cl Tryz.prog 105 #[t4] (fun t48_7 w =>
  fd 1 t5 (fun t49_7 w =>
  st1 t49_7 t48_7 (fun w =>
  cl Tryz.prog 105 #[t4] (fun t50_7 w =>
  fd 6 t5 (fun t51_7 w =>
  st1 t51_7 t50_7 (fun w =>
  s28_p1 K t2 t4 t5 w) w) w) w) w) w) w)
  (boI .eql t11 (.int .u8 18) (fun t53_7 w =>
  ifb t53_7
  (cl Tryz.prog 105 #[t4] (fun t54_7 w =>
  fd 2 t5 (fun t55_7 w =>
  st1 t55_7 t54_7 (fun w =>
  cl Tryz.prog 105 #[t4] (fun t56_7 w =>
  fd 3 t5 (fun t57_7 w =>
  st1 t57_7 t56_7 (fun w =>
  s28_p1 K t2 t4 t5 w) w) w) w) w) w) w)
  (boI .eql t11 (.int .u8 19) (fun t59_7 w =>
  ifb t59_7
  (cl Tryz.prog 105 #[t4] (fun t60_7 w =>
  fd 2 t5 (fun t61_7 w =>
  st1 t61_7 t60_7 (fun w =>
  s28_p1 K t2 t4 t5 w) w) w) w)
  (boI .eql t11 (.int .u8 21) (fun t63_7 w =>
  ifb t63_7
  (cl Tryz.prog 105 #[t4] (fun t64_7 w =>
  fd 2 t5 (fun t65_7 w =>
  st1 t65_7 t64_7 (fun w =>
  cl Tryz.prog 105 #[t4] (fun t66_7 w =>
  fd 4 t5 (fun t67_7 w =>
  st1 t67_7 t66_7 (fun w =>
  cl Tryz.prog 105 #[t4] (fun t68_7 w =>
  fd 5 t5 (fun t69_7 w =>
  st1 t69_7 t68_7 (fun w =>
  cl Tryz.prog 105 #[t4] (fun t70_7 w =>
  fd 3 t5 (fun t71_7 w =>
  st1 t71_7 t70_7 (fun w =>
  s28_p1 K t2 t4 t5 w) w) w) w) w) w) w) w) w) w) w) w) w)
  (boI .eql t11 (.int .u8 9) (fun t73_7 w =>
  ifb t73_7
  (ifb t73_7
  (s28_p1 K t2 t4 t5 w)
  (cl Tryz.prog 107 #[t4] (fun t12_19 w =>
  s28_p1 K t2 t4 t5 w) w))
  (boI .eql t11 (.int .u8 20) (fun t74_7 w =>
  ifb t74_7
  (ifb t74_7
  (s28_p1 K t2 t4 t5 w)
  (cl Tryz.prog 107 #[t4] (fun t12_20 w =>
  s28_p1 K t2 t4 t5 w) w))
  (boI .eql t11 (.int .u8 23) (fun t75_7 w =>
  ifb t75_7
  (s28_p1 K t2 t4 t5 w)
  (cl Tryz.prog 107 #[t4] (fun t12_21 w =>
  s28_p1 K t2 t4 t5 w) w)) w)) w)) w)) w)) w)) w)) w)) w)) w)) w)) w)) w)) w)) w)) w)) w))
  (boI .eql t11 (.int .u8 22) (fun t15 w =>
  ifb t15
  (cl Tryz.prog 105 #[t4] (fun t16_2 w =>
  fd 4 t5 (fun t17_2 w =>
  st1 t17_2 t16_2 (fun w =>
  cl Tryz.prog 105 #[t4] (fun t18_2 w =>
  fd 5 t5 (fun t19_2 w =>
  st1 t19_2 t18_2 (fun w =>
  cl Tryz.prog 106 #[t4, (.int .i64 8)] (fun t20_2 w =>
  fd 7 t5 (fun t21_2 w =>
  st1 t21_2 t20_2 (fun w =>
  s28_p1 K t2 t4 t5 w) w) w) w) w) w) w) w) w) w)
  (boI .eql t11 (.int .u8 5) (fun t23_2 w =>
  ifb t23_2
  (cl Tryz.prog 105 #[t4] (fun t24_2 w =>
  fd 1 t5 (fun t25_2 w =>
  st1 t25_2 t24_2 (fun w =>
  cl Tryz.prog 106 #[t4, (.int .i64 8)] (fun t26_2 w =>
  fd 7 t5 (fun t27_2 w =>
  st1 t27_2 t26_2 (fun w =>
  s28_p1 K t2 t4 t5 w) w) w) w) w) w) w)
  (boI .eql t11 (.int .u8 6) (fun t29_2 w =>
  ifb t29_2
  (cl Tryz.prog 105 #[t4] (fun t30_2 w =>
  fd 2 t5 (fun t31_2 w =>
  st1 t31_2 t30_2 (fun w =>
  cl Tryz.prog 105 #[t4] (fun t32_2 w =>
  fd 4 t5 (fun t33_2 w =>
  st1 t33_2 t32_2 (fun w =>
  cl Tryz.prog 105 #[t4] (fun t34_2 w =>
  fd 5 t5 (fun t35_2 w =>
  st1 t35_2 t34_2 (fun w =>
  s28_p1 K t2 t4 t5 w) w) w) w) w) w) w) w) w) w)
  (boI .eql t11 (.int .u8 2) (fun t37_2 w =>
  ifb t37_2
  (ifb t37_2
  (cl Tryz.prog 105 #[t4] (fun t44_8 w =>
  fd 1 t5 (fun t45_8 w =>
  st1 t45_8 t44_8 (fun w =>
  s28_p1 K t2 t4 t5 w) w) w) w)
  (boI .eql t11 (.int .u8 17) (fun t47_8 w =>
  ifb t47_8
  (cl Tryz.prog 105 #[t4] (fun t48_8 w =>
  fd 1 t5 (fun t49_8 w =>
  st1 t49_8 t48_8 (fun w =>
  cl Tryz.prog 105 #[t4] (fun t50_8 w =>
  fd 6 t5 (fun t51_8 w =>
  st1 t51_8 t50_8 (fun w =>
  s28_p1 K t2 t4 t5 w) w) w) w) w) w) w)
  (boI .eql t11 (.int .u8 18) (fun t53_8 w =>
  ifb t53_8
  (cl Tryz.prog 105 #[t4] (fun t54_8 w =>
  fd 2 t5 (fun t55_8 w =>
  st1 t55_8 t54_8 (fun w =>
  cl Tryz.prog 105 #[t4] (fun t56_8 w =>
  fd 3 t5 (fun t57_8 w =>
  st1 t57_8 t56_8 (fun w =>
  s28_p1 K t2 t4 t5 w) w) w) w) w) w) w)
  (boI .eql t11 (.int .u8 19) (fun t59_8 w =>
  ifb t59_8
  (cl Tryz.prog 105 #[t4] (fun t60_8 w =>
  fd 2 t5 (fun t61_8 w =>
  st1 t61_8 t60_8 (fun w =>
  s28_p1 K t2 t4 t5 w) w) w) w)
  (boI .eql t11 (.int .u8 21) (fun t63_8 w =>
  ifb t63_8
  (cl Tryz.prog 105 #[t4] (fun t64_8 w =>
  fd 2 t5 (fun t65_8 w =>
  st1 t65_8 t64_8 (fun w =>
  cl Tryz.prog 105 #[t4] (fun t66_8 w =>
  fd 4 t5 (fun t67_8 w =>
  st1 t67_8 t66_8 (fun w =>
  cl Tryz.prog 105 #[t4] (fun t68_8 w =>
  fd 5 t5 (fun t69_8 w =>
  st1 t69_8 t68_8 (fun w =>
  cl Tryz.prog 105 #[t4] (fun t70_8 w =>
  fd 3 t5 (fun t71_8 w =>
  st1 t71_8 t70_8 (fun w =>
  s28_p1 K t2 t4 t5 w) w) w) w) w) w) w) w) w) w) w) w) w)
  (boI .eql t11 (.int .u8 9) (fun t73_8 w =>
  ifb t73_8
  (ifb t73_8
  (s28_p1 K t2 t4 t5 w)
  (cl Tryz.prog 107 #[t4] (fun t12_22 w =>
  s28_p1 K t2 t4 t5 w) w))
  (boI .eql t11 (.int .u8 20) (fun t74_8 w =>
  ifb t74_8
  (ifb t74_8
  (s28_p1 K t2 t4 t5 w)
  (cl Tryz.prog 107 #[t4] (fun t12_23 w =>
  s28_p1 K t2 t4 t5 w) w))
  (boI .eql t11 (.int .u8 23) (fun t75_8 w =>
  ifb t75_8
  (s28_p1 K t2 t4 t5 w)
  (cl Tryz.prog 107 #[t4] (fun t12_24 w =>
  s28_p1 K t2 t4 t5 w) w)) w)) w)) w)) w)) w)) w)) w))
  (boI .eql t11 (.int .u8 3) (fun t38_2 w =>
  ifb t38_2
  (ifb t38_2
  (cl Tryz.prog 105 #[t4] (fun t44_9 w =>
  fd 1 t5 (fun t45_9 w =>
  st1 t45_9 t44_9 (fun w =>
  s28_p1 K t2 t4 t5 w) w) w) w)
  (boI .eql t11 (.int .u8 17) (fun t47_9 w =>
  ifb t47_9
  (cl Tryz.prog 105 #[t4] (fun t48_9 w =>
  fd 1 t5 (fun t49_9 w =>
  st1 t49_9 t48_9 (fun w =>
  cl Tryz.prog 105 #[t4] (fun t50_9 w =>
  fd 6 t5 (fun t51_9 w =>
  st1 t51_9 t50_9 (fun w =>
  s28_p1 K t2 t4 t5 w) w) w) w) w) w) w)
  (boI .eql t11 (.int .u8 18) (fun t53_9 w =>
  ifb t53_9
  (cl Tryz.prog 105 #[t4] (fun t54_9 w =>
  fd 2 t5 (fun t55_9 w =>
  st1 t55_9 t54_9 (fun w =>
  cl Tryz.prog 105 #[t4] (fun t56_9 w =>
  fd 3 t5 (fun t57_9 w =>
  st1 t57_9 t56_9 (fun w =>
  s28_p1 K t2 t4 t5 w) w) w) w) w) w) w)
  (boI .eql t11 (.int .u8 19) (fun t59_9 w =>
  ifb t59_9
  (cl Tryz.prog 105 #[t4] (fun t60_9 w =>
  fd 2 t5 (fun t61_9 w =>
  st1 t61_9 t60_9 (fun w =>
  s28_p1 K t2 t4 t5 w) w) w) w)
  (boI .eql t11 (.int .u8 21) (fun t63_9 w =>
  ifb t63_9
  (cl Tryz.prog 105 #[t4] (fun t64_9 w =>
  fd 2 t5 (fun t65_9 w =>
  st1 t65_9 t64_9 (fun w =>
  cl Tryz.prog 105 #[t4] (fun t66_9 w =>
  fd 4 t5 (fun t67_9 w =>
  st1 t67_9 t66_9 (fun w =>
  cl Tryz.prog 105 #[t4] (fun t68_9 w =>
  fd 5 t5 (fun t69_9 w =>
  st1 t69_9 t68_9 (fun w =>
  cl Tryz.prog 105 #[t4] (fun t70_9 w =>
  fd 3 t5 (fun t71_9 w =>
  st1 t71_9 t70_9 (fun w =>
  s28_p1 K t2 t4 t5 w) w) w) w) w) w) w) w) w) w) w) w) w)
  (boI .eql t11 (.int .u8 9) (fun t73_9 w =>
  ifb t73_9
  (ifb t73_9
  (s28_p1 K t2 t4 t5 w)
  (cl Tryz.prog 107 #[t4] (fun t12_25 w =>
  s28_p1 K t2 t4 t5 w) w))
  (boI .eql t11 (.int .u8 20) (fun t74_9 w =>
  ifb t74_9
  (ifb t74_9
  (s28_p1 K t2 t4 t5 w)
  (cl Tryz.prog 107 #[t4] (fun t12_26 w =>
  s28_p1 K t2 t4 t5 w) w))
  (boI .eql t11 (.int .u8 23) (fun t75_9 w =>
  ifb t75_9
  (s28_p1 K t2 t4 t5 w)
  (cl Tryz.prog 107 #[t4] (fun t12_27 w =>
  s28_p1 K t2 t4 t5 w) w)) w)) w)) w)) w)) w)) w)) w))
  (boI .eql t11 (.int .u8 4) (fun t39_2 w =>
  ifb t39_2
  (ifb t39_2
  (cl Tryz.prog 105 #[t4] (fun t44_10 w =>
  fd 1 t5 (fun t45_10 w =>
  st1 t45_10 t44_10 (fun w =>
  s28_p1 K t2 t4 t5 w) w) w) w)
  (boI .eql t11 (.int .u8 17) (fun t47_10 w =>
  ifb t47_10
  (cl Tryz.prog 105 #[t4] (fun t48_10 w =>
  fd 1 t5 (fun t49_10 w =>
  st1 t49_10 t48_10 (fun w =>
  cl Tryz.prog 105 #[t4] (fun t50_10 w =>
  fd 6 t5 (fun t51_10 w =>
  st1 t51_10 t50_10 (fun w =>
  s28_p1 K t2 t4 t5 w) w) w) w) w) w) w)
  (boI .eql t11 (.int .u8 18) (fun t53_10 w =>
  ifb t53_10
  (cl Tryz.prog 105 #[t4] (fun t54_10 w =>
  fd 2 t5 (fun t55_10 w =>
  st1 t55_10 t54_10 (fun w =>
  cl Tryz.prog 105 #[t4] (fun t56_10 w =>
  fd 3 t5 (fun t57_10 w =>
  st1 t57_10 t56_10 (fun w =>
  s28_p1 K t2 t4 t5 w) w) w) w) w) w) w)
  (boI .eql t11 (.int .u8 19) (fun t59_10 w =>
  ifb t59_10
  (cl Tryz.prog 105 #[t4] (fun t60_10 w =>
  fd 2 t5 (fun t61_10 w =>
  st1 t61_10 t60_10 (fun w =>
  s28_p1 K t2 t4 t5 w) w) w) w)
  (boI .eql t11 (.int .u8 21) (fun t63_10 w =>
  ifb t63_10
  (cl Tryz.prog 105 #[t4] (fun t64_10 w =>
  fd 2 t5 (fun t65_10 w =>
  st1 t65_10 t64_10 (fun w =>
  cl Tryz.prog 105 #[t4] (fun t66_10 w =>
  fd 4 t5 (fun t67_10 w =>
  st1 t67_10 t66_10 (fun w =>
  cl Tryz.prog 105 #[t4] (fun t68_10 w =>
  fd 5 t5 (fun t69_10 w =>
  st1 t69_10 t68_10 (fun w =>
  cl Tryz.prog 105 #[t4] (fun t70_10 w =>
  fd 3 t5 (fun t71_10 w =>
  st1 t71_10 t70_10 (fun w =>
  s28_p1 K t2 t4 t5 w) w) w) w) w) w) w) w) w) w) w) w) w)
  (boI .eql t11 (.int .u8 9) (fun t73_10 w =>
  ifb t73_10
  (ifb t73_10
  (s28_p1 K t2 t4 t5 w)
  (cl Tryz.prog 107 #[t4] (fun t12_28 w =>
  s28_p1 K t2 t4 t5 w) w))
  (boI .eql t11 (.int .u8 20) (fun t74_10 w =>
  ifb t74_10
  (ifb t74_10
  (s28_p1 K t2 t4 t5 w)
  (cl Tryz.prog 107 #[t4] (fun t12_29 w =>
  s28_p1 K t2 t4 t5 w) w))
  (boI .eql t11 (.int .u8 23) (fun t75_10 w =>
  ifb t75_10
  (s28_p1 K t2 t4 t5 w)
  (cl Tryz.prog 107 #[t4] (fun t12_30 w =>
  s28_p1 K t2 t4 t5 w) w)) w)) w)) w)) w)) w)) w)) w))
  (boI .eql t11 (.int .u8 7) (fun t40_2 w =>
  ifb t40_2
  (ifb t40_2
  (cl Tryz.prog 105 #[t4] (fun t44_11 w =>
  fd 1 t5 (fun t45_11 w =>
  st1 t45_11 t44_11 (fun w =>
  s28_p1 K t2 t4 t5 w) w) w) w)
  (boI .eql t11 (.int .u8 17) (fun t47_11 w =>
  ifb t47_11
  (cl Tryz.prog 105 #[t4] (fun t48_11 w =>
  fd 1 t5 (fun t49_11 w =>
  st1 t49_11 t48_11 (fun w =>
  cl Tryz.prog 105 #[t4] (fun t50_11 w =>
  fd 6 t5 (fun t51_11 w =>
  st1 t51_11 t50_11 (fun w =>
  s28_p1 K t2 t4 t5 w) w) w) w) w) w) w)
  (boI .eql t11 (.int .u8 18) (fun t53_11 w =>
  ifb t53_11
  (cl Tryz.prog 105 #[t4] (fun t54_11 w =>
  fd 2 t5 (fun t55_11 w =>
  st1 t55_11 t54_11 (fun w =>
  cl Tryz.prog 105 #[t4] (fun t56_11 w =>
  fd 3 t5 (fun t57_11 w =>
  st1 t57_11 t56_11 (fun w =>
  s28_p1 K t2 t4 t5 w) w) w) w) w) w) w)
  (boI .eql t11 (.int .u8 19) (fun t59_11 w =>
  ifb t59_11
  (cl Tryz.prog 105 #[t4] (fun t60_11 w =>
  fd 2 t5 (fun t61_11 w =>
  st1 t61_11 t60_11 (fun w =>
  s28_p1 K t2 t4 t5 w) w) w) w)
  (boI .eql t11 (.int .u8 21) (fun t63_11 w =>
  ifb t63_11
  (cl Tryz.prog 105 #[t4] (fun t64_11 w =>
  fd 2 t5 (fun t65_11 w =>
  st1 t65_11 t64_11 (fun w =>
  cl Tryz.prog 105 #[t4] (fun t66_11 w =>
  fd 4 t5 (fun t67_11 w =>
  st1 t67_11 t66_11 (fun w =>
  cl Tryz.prog 105 #[t4] (fun t68_11 w =>
  fd 5 t5 (fun t69_11 w =>
  st1 t69_11 t68_11 (fun w =>
  cl Tryz.prog 105 #[t4] (fun t70_11 w =>
  fd 3 t5 (fun t71_11 w =>
  st1 t71_11 t70_11 (fun w =>
  s28_p1 K t2 t4 t5 w) w) w) w) w) w) w) w) w) w) w) w) w)
  (boI .eql t11 (.int .u8 9) (fun t73_11 w =>
  ifb t73_11
  (ifb t73_11
  (s28_p1 K t2 t4 t5 w)
  (cl Tryz.prog 107 #[t4] (fun t12_31 w =>
  s28_p1 K t2 t4 t5 w) w))
  (boI .eql t11 (.int .u8 20) (fun t74_11 w =>
  ifb t74_11
  (ifb t74_11
  (s28_p1 K t2 t4 t5 w)
  (cl Tryz.prog 107 #[t4] (fun t12_32 w =>
  s28_p1 K t2 t4 t5 w) w))
  (boI .eql t11 (.int .u8 23) (fun t75_11 w =>
  ifb t75_11
  (s28_p1 K t2 t4 t5 w)
  (cl Tryz.prog 107 #[t4] (fun t12_33 w =>
  s28_p1 K t2 t4 t5 w) w)) w)) w)) w)) w)) w)) w)) w))
  (boI .eql t11 (.int .u8 8) (fun t41_2 w =>
  ifb t41_2
  (ifb t41_2
  (cl Tryz.prog 105 #[t4] (fun t44_12 w =>
  fd 1 t5 (fun t45_12 w =>
  st1 t45_12 t44_12 (fun w =>
  s28_p1 K t2 t4 t5 w) w) w) w)
  (boI .eql t11 (.int .u8 17) (fun t47_12 w =>
  ifb t47_12
  (cl Tryz.prog 105 #[t4] (fun t48_12 w =>
  fd 1 t5 (fun t49_12 w =>
  st1 t49_12 t48_12 (fun w =>
  cl Tryz.prog 105 #[t4] (fun t50_12 w =>
  fd 6 t5 (fun t51_12 w =>
  st1 t51_12 t50_12 (fun w =>
  s28_p1 K t2 t4 t5 w) w) w) w) w) w) w)
  (boI .eql t11 (.int .u8 18) (fun t53_12 w =>
  ifb t53_12
  (cl Tryz.prog 105 #[t4] (fun t54_12 w =>
  fd 2 t5 (fun t55_12 w =>
  st1 t55_12 t54_12 (fun w =>
  cl Tryz.prog 105 #[t4] (fun t56_12 w =>
  fd 3 t5 (fun t57_12 w =>
  st1 t57_12 t56_12 (fun w =>
  s28_p1 K t2 t4 t5 w) w) w) w) w) w) w)
  (boI .eql t11 (.int .u8 19) (fun t59_12 w =>
  ifb t59_12
  (cl Tryz.prog 105 #[t4] (fun t60_12 w =>
  fd 2 t5 (fun t61_12 w =>
  st1 t61_12 t60_12 (fun w =>
  s28_p1 K t2 t4 t5 w) w) w) w)
  (boI .eql t11 (.int .u8 21) (fun t63_12 w =>
  ifb t63_12
  (cl Tryz.prog 105 #[t4] (fun t64_12 w =>
  fd 2 t5 (fun t65_12 w =>
  st1 t65_12 t64_12 (fun w =>
  cl Tryz.prog 105 #[t4] (fun t66_12 w =>
  fd 4 t5 (fun t67_12 w =>
  st1 t67_12 t66_12 (fun w =>
  cl Tryz.prog 105 #[t4] (fun t68_12 w =>
  fd 5 t5 (fun t69_12 w =>
  st1 t69_12 t68_12 (fun w =>
  cl Tryz.prog 105 #[t4] (fun t70_12 w =>
  fd 3 t5 (fun t71_12 w =>
  st1 t71_12 t70_12 (fun w =>
  s28_p1 K t2 t4 t5 w) w) w) w) w) w) w) w) w) w) w) w) w)
  (boI .eql t11 (.int .u8 9) (fun t73_12 w =>
  ifb t73_12
  (ifb t73_12
  (s28_p1 K t2 t4 t5 w)
  (cl Tryz.prog 107 #[t4] (fun t12_34 w =>
  s28_p1 K t2 t4 t5 w) w))
  (boI .eql t11 (.int .u8 20) (fun t74_12 w =>
  ifb t74_12
  (ifb t74_12
  (s28_p1 K t2 t4 t5 w)
  (cl Tryz.prog 107 #[t4] (fun t12_35 w =>
  s28_p1 K t2 t4 t5 w) w))
  (boI .eql t11 (.int .u8 23) (fun t75_12 w =>
  ifb t75_12
  (s28_p1 K t2 t4 t5 w)
  (cl Tryz.prog 107 #[t4] (fun t12_36 w =>
  s28_p1 K t2 t4 t5 w) w)) w)) w)) w)) w)) w)) w)) w))
  (boI .eql t11 (.int .u8 16) (fun t42_2 w =>
  ifb t42_2
  (ifb t42_2
  (cl Tryz.prog 105 #[t4] (fun t44_13 w =>
  fd 1 t5 (fun t45_13 w =>
  st1 t45_13 t44_13 (fun w =>
  s28_p1 K t2 t4 t5 w) w) w) w)
  (boI .eql t11 (.int .u8 17) (fun t47_13 w =>
  ifb t47_13
  (cl Tryz.prog 105 #[t4] (fun t48_13 w =>
  fd 1 t5 (fun t49_13 w =>
  st1 t49_13 t48_13 (fun w =>
  cl Tryz.prog 105 #[t4] (fun t50_13 w =>
  fd 6 t5 (fun t51_13 w =>
  st1 t51_13 t50_13 (fun w =>
  s28_p1 K t2 t4 t5 w) w) w) w) w) w) w)
  (boI .eql t11 (.int .u8 18) (fun t53_13 w =>
  ifb t53_13
  (cl Tryz.prog 105 #[t4] (fun t54_13 w =>
  fd 2 t5 (fun t55_13 w =>
  st1 t55_13 t54_13 (fun w =>
  cl Tryz.prog 105 #[t4] (fun t56_13 w =>
  fd 3 t5 (fun t57_13 w =>
  st1 t57_13 t56_13 (fun w =>
  s28_p1 K t2 t4 t5 w) w) w) w) w) w) w)
  (boI .eql t11 (.int .u8 19) (fun t59_13 w =>
  ifb t59_13
  (cl Tryz.prog 105 #[t4] (fun t60_13 w =>
  fd 2 t5 (fun t61_13 w =>
  st1 t61_13 t60_13 (fun w =>
  s28_p1 K t2 t4 t5 w) w) w) w)
  (boI .eql t11 (.int .u8 21) (fun t63_13 w =>
  ifb t63_13
  (cl Tryz.prog 105 #[t4] (fun t64_13 w =>
  fd 2 t5 (fun t65_13 w =>
  st1 t65_13 t64_13 (fun w =>
  cl Tryz.prog 105 #[t4] (fun t66_13 w =>
  fd 4 t5 (fun t67_13 w =>
  st1 t67_13 t66_13 (fun w =>
  cl Tryz.prog 105 #[t4] (fun t68_13 w =>
  fd 5 t5 (fun t69_13 w =>
  st1 t69_13 t68_13 (fun w =>
  cl Tryz.prog 105 #[t4] (fun t70_13 w =>
  fd 3 t5 (fun t71_13 w =>
  st1 t71_13 t70_13 (fun w =>
  s28_p1 K t2 t4 t5 w) w) w) w) w) w) w) w) w) w) w) w) w)
  (boI .eql t11 (.int .u8 9) (fun t73_13 w =>
  ifb t73_13
  (ifb t73_13
  (s28_p1 K t2 t4 t5 w)
  (cl Tryz.prog 107 #[t4] (fun t12_37 w =>
  s28_p1 K t2 t4 t5 w) w))
  (boI .eql t11 (.int .u8 20) (fun t74_13 w =>
  ifb t74_13
  (ifb t74_13
  (s28_p1 K t2 t4 t5 w)
  (cl Tryz.prog 107 #[t4] (fun t12_38 w =>
  s28_p1 K t2 t4 t5 w) w))
  (boI .eql t11 (.int .u8 23) (fun t75_13 w =>
  ifb t75_13
  (s28_p1 K t2 t4 t5 w)
  (cl Tryz.prog 107 #[t4] (fun t12_39 w =>
  s28_p1 K t2 t4 t5 w) w)) w)) w)) w)) w)) w)) w)) w))
  (boI .eql t11 (.int .u8 24) (fun t43_2 w =>
  ifb t43_2
  (cl Tryz.prog 105 #[t4] (fun t44_14 w =>
  fd 1 t5 (fun t45_14 w =>
  st1 t45_14 t44_14 (fun w =>
  s28_p1 K t2 t4 t5 w) w) w) w)
  (boI .eql t11 (.int .u8 17) (fun t47_14 w =>
  ifb t47_14
  (cl Tryz.prog 105 #[t4] (fun t48_14 w =>
  fd 1 t5 (fun t49_14 w =>
  st1 t49_14 t48_14 (fun w =>
  cl Tryz.prog 105 #[t4] (fun t50_14 w =>
  fd 6 t5 (fun t51_14 w =>
  st1 t51_14 t50_14 (fun w =>
  s28_p1 K t2 t4 t5 w) w) w) w) w) w) w)
  (boI .eql t11 (.int .u8 18) (fun t53_14 w =>
  ifb t53_14
  (cl Tryz.prog 105 #[t4] (fun t54_14 w =>
  fd 2 t5 (fun t55_14 w =>
  st1 t55_14 t54_14 (fun w =>
  cl Tryz.prog 105 #[t4] (fun t56_14 w =>
  fd 3 t5 (fun t57_14 w =>
  st1 t57_14 t56_14 (fun w =>
  s28_p1 K t2 t4 t5 w) w) w) w) w) w) w)
  (boI .eql t11 (.int .u8 19) (fun t59_14 w =>
  ifb t59_14
  (cl Tryz.prog 105 #[t4] (fun t60_14 w =>
  fd 2 t5 (fun t61_14 w =>
  st1 t61_14 t60_14 (fun w =>
  s28_p1 K t2 t4 t5 w) w) w) w)
  (boI .eql t11 (.int .u8 21) (fun t63_14 w =>
  ifb t63_14
  (cl Tryz.prog 105 #[t4] (fun t64_14 w =>
  fd 2 t5 (fun t65_14 w =>
  st1 t65_14 t64_14 (fun w =>
  cl Tryz.prog 105 #[t4] (fun t66_14 w =>
  fd 4 t5 (fun t67_14 w =>
  st1 t67_14 t66_14 (fun w =>
  cl Tryz.prog 105 #[t4] (fun t68_14 w =>
  fd 5 t5 (fun t69_14 w =>
  st1 t69_14 t68_14 (fun w =>
  cl Tryz.prog 105 #[t4] (fun t70_14 w =>
  fd 3 t5 (fun t71_14 w =>
  st1 t71_14 t70_14 (fun w =>
  s28_p1 K t2 t4 t5 w) w) w) w) w) w) w) w) w) w) w) w) w)
  (boI .eql t11 (.int .u8 9) (fun t73_14 w =>
  ifb t73_14
  (ifb t73_14
  (s28_p1 K t2 t4 t5 w)
  (cl Tryz.prog 107 #[t4] (fun t12_40 w =>
  s28_p1 K t2 t4 t5 w) w))
  (boI .eql t11 (.int .u8 20) (fun t74_14 w =>
  ifb t74_14
  (ifb t74_14
  (s28_p1 K t2 t4 t5 w)
  (cl Tryz.prog 107 #[t4] (fun t12_41 w =>
  s28_p1 K t2 t4 t5 w) w))
  (boI .eql t11 (.int .u8 23) (fun t75_14 w =>
  ifb t75_14
  (s28_p1 K t2 t4 t5 w)
  (cl Tryz.prog 107 #[t4] (fun t12_42 w =>
  s28_p1 K t2 t4 t5 w) w)) w)) w)) w)) w)) w)) w)) w)) w)) w)) w)) w)) w)) w)) w)) w)) w)) w)) w) w) w) w) w) w) w) w) w) w) w
def s28_p2_den (K : Value → World → Prop) : (Nat → Value) → World → Prop := denL Tryz.prog [(cd (Tryz.f28.body.getD .skip) [0]), (cd (Tryz.f28.body.getD .skip) [1, 0]), (cd (Tryz.f28.body.getD .skip) [1, 1, 0]), (cd (Tryz.f28.body.getD .skip) [1, 1, 1, 0, 0]), (cd (Tryz.f28.body.getD .skip) [1, 1, 1, 0, 1])] (s28_p1_den K) (fun i => (fun _ _ => False)) (s28_R K)
theorem s28_p2_ok (K : Value → World → Prop) (s : Nat → Value) (w : World) (h : s28_p2 K (s 0) w) : Tr (s28_p2_den K s w) :=
  tr_simple (P := Tryz.prog) (codes := [(cd (Tryz.f28.body.getD .skip) [0]), (cd (Tryz.f28.body.getD .skip) [1, 0]), (cd (Tryz.f28.body.getD .skip) [1, 1, 0]), (cd (Tryz.f28.body.getD .skip) [1, 1, 1, 0, 0]), (cd (Tryz.f28.body.getD .skip) [1, 1, 1, 0, 1])]) (N := (fun s w => s28_p1 K (s 2) (s 4) (s 5) w)) (N' := (s28_p1_den K)) (X := (fun i => (fun _ _ => False))) (X' := (fun i => (fun _ _ => False))) (R := s28_R K) (s := s) (w := w) (p := s28_p2 K (s 0) w) (q := s28_p2_den K s w) (fun s w h => s28_p1_ok K s w @h) (fun i => tr_id) (by kernel_rfl) (by kernel_rfl) @h
/-- the call, from the text -/
theorem c28 (t0 : Value) {K : Value → World → Prop} {w : World} (h : s28_p2 K t0 w) : cl Tryz.prog 28 #[t0] K w :=
  calls_of_tr (c := (Tryz.f28.body.getD .skip)) (fn := Tryz.f28) (q := s28_p2_den K (st0 #[t0]) w) Tryz.func28 (by kernel_rfl) (by kernel_rfl) (Nat.le_of_ble_eq_true (by kernel_rfl)) (by kernel_rfl) (by kernel_rfl) (s28_p2_ok K (st0 #[t0]) w @h)

/-! ### function 182 : e2e.engine.AppendRequest -/
def s182_R (K : Value → World → Prop) (s : Nat → Value) (w : World) : Prop := retv Tryz.prog s Tryz.f182.results.toList (fun vs => K (pack vs) w) w
def s182_p1 (K : Value → World → Prop) (t0 : Value) (w : World) : Prop :=
  K (.tuple #[t0, (.bool true)]) w
def s182_p1_den (K : Value → World → Prop) : (Nat → Value) → World → Prop := denL Tryz.prog [(cd (Tryz.f182.body.getD .skip) [1, 1, 1, 1, 0]), (cd (Tryz.f182.body.getD .skip) [1, 1, 1, 1, 1])] (fun _ _ => False) (fun i => (fun _ _ => False)) (s182_R K)
theorem s182_p1_ok (K : Value → World → Prop) (s : Nat → Value) (w : World) (h : s182_p1 K (s 0) w) : Tr (s182_p1_den K s w) :=
  tr_simple (P := Tryz.prog) (codes := [(cd (Tryz.f182.body.getD .skip) [1, 1, 1, 1, 0]), (cd (Tryz.f182.body.getD .skip) [1, 1, 1, 1, 1])]) (N := (fun _ _ => False)) (N' := (fun _ _ => False)) (X := (fun i => (fun _ _ => False))) (X' := (fun i => (fun _ _ => False))) (R := s182_R K) (s := s) (w := w) (p := s182_p1 K (s 0) w) (q := s182_p1_den K s w) tr_id (fun i => tr_id) (by kernel_rfl) (by kernel_rfl) @h
def s182_p2 (K : Value → World → Prop) (t0 t1 : Value) (w : World) : Prop :=
  nw 52 (t1).cells (fun t3 w =>
  ldn 8 t3 (fun t6 w =>
  cl Tryz.prog 183 #[t6] (fun t7 w =>
  un .not t7 (fun t8 w =>
  ifb t8
  (K (.tuple #[t0, (.bool false)]) w)
  (fd 0 t3 (fun t11 w =>
  ld1 t11 (fun t12 w =>
  bsq 5 [(.int .u8 0)] 1 [(some (0, 1), t12)] (fun t13 w =>
  apq 5 [(.int .u8 0)] 1 t0 t13 (fun t14 w =>
  fd 0 t3 (fun t15 w =>
  ld1 t15 (fun t16 w =>
  boI .eql t16 (.int .u8 1) (fun t18 w =>
  ifb t18
  (ifb t18
  (fd 4 t3 (fun t21 w =>
  ld1 t21 (fun t22 w =>
  cl Tryz.prog 136 #[t14, t22] (fun t23 w =>
  fd 5 t3 (fun t25 w =>
  ld1 t25 (fun t26 w =>
  cl Tryz.prog 136 #[t23, t26] (fun t27 w =>
  fd 7 t3 (fun t29 w =>
  ld1 t29 (fun t30 w =>
  cl Tryz.prog 216 #[t27, t30] (fun t31 w =>
  s182_p1 K t31 w) w) w) w) w) w) w) w) w) w)
  (boI .eql t16 (.int .u8 5) (fun t33 w =>
  ifb t33
  (fd 1 t3 (fun t35 w =>
  ld1 t35 (fun t36 w =>
  cl Tryz.prog 136 #[t14, t36] (fun t37 w =>
  fd 7 t3 (fun t39 w =>
  ld1 t39 (fun t40 w =>
  cl Tryz.prog 216 #[t37, t40] (fun t41 w =>
  s182_p1 K t41 w) w) w) w) w) w) w)
  (boI .eql t16 (.int .u8 6) (fun t43 w =>
  ifb t43
  (fd 2 t3 (fun t45 w =>
  ld1 t45 (fun t46 w =>
  cl Tryz.prog 136 #[t14, t46] (fun t47 w =>
  fd 4 t3 (fun t49 w =>
  ld1 t49 (fun t50 w =>
  cl Tryz.prog 136 #[t47, t50] (fun t51 w =>
  fd 5 t3 (fun t53 w =>
  ld1 t53 (fun t54 w =>
  cl Tryz.prog 136 #[t51, t54] (fun t55 w =>
  s182_p1 K t55 w) w) w) w) w) w) w) w) w) w)
  (boI .eql t16 (.int .u8 2) (fun t57 w =>
  ifb t57
  (ifb t57
  (fd 1 t3 (fun t65 w =>
  ld1 t65 (fun t66 w =>
  cl Tryz.prog 136 #[t14, t66] (fun t67 w =>
  s182_p1 K t67 w) w) w) w)
  (boI .eql t16 (.int .u8 17) (fun t69 w =>
  ifb t69
  (fd 1 t3 (fun t71 w =>
  ld1 t71 (fun t72 w =>
  cl Tryz.prog 136 #[t14, t72] (fun t73 w =>
  fd 6 t3 (fun t75 w =>
  ld1 t75 (fun t76 w =>
  cl Tryz.prog 136 #[t73, t76] (fun t77 w =>
  s182_p1 K t77 w) w) w) w) w) w) w)
  (boI .eql t16 (.int .u8 18) (fun t79 w =>
  ifb t79
  (fd 2 t3 (fun t81 w =>
  ld1 t81 (fun t82 w =>
  cl Tryz.prog 136 #[t14, t82] (fun t83 w =>
  fd 3 t3 (fun t85 w =>
  ld1 t85 (fun t86 w =>
  cl Tryz.prog 136 #[t83, t86] (fun t87 w =>
  s182_p1 K t87 w) w) w) w) w) w) w)
  (boI .eql t16 (.int .u8 19) (fun t89 w =>
  ifb t89
  (fd 2 t3 (fun t91 w =>
  ld1 t91 (fun t92 w =>
  cl Tryz.prog 136 #[t14, t92] (fun t93 w =>
  s182_p1 K t93 w) w) w) w)
  (boI .eql t16 (.int .u8 21) (fun t95 w =>
  ifb t95
  (fd 2 t3 (fun t97 w =>
  ld1 t97 (fun t98 w =>
  cl Tryz.prog 136 #[t14, t98] (fun t99 w =>
  fd 4 t3 (fun t101 w =>
  ld1 t101 (fun t102 w =>
  cl Tryz.prog 136 #[t99, t102] (fun t103 w =>
  fd 5 t3 (fun t105 w =>
  ld1 t105 (fun t106 w =>
  cl Tryz.prog 136 #[t103, t106] (fun t107 w =>
  fd 3 t3 (fun t109 w =>
  ld1 t109 (fun t110 w =>
  cl Tryz.prog 136 #[t107, t110] (fun t111 w =>
  s182_p1 K t111 w) w) w) w) w) w) w) w) w) w) w) w) w)
  (s182_p1 K t14 w)) w)) w)) w)) w))
  (boI .eql t16 (.int .u8 3) (fun t58 w =>
  ifb t58
  (ifb t58
  (fd 1 t3 (fun t65_2 w =>
  ld1 t65_2 (fun t66_2 w =>
  cl Tryz.prog 136 #[t14, t66_2] (fun t67_2 w =>
  s182_p1 K t67_2 w) w) w) w)
  (boI .eql t16 (.int .u8 17) (fun t69_2 w =>
  ifb t69_2
  (fd 1 t3 (fun t71_2 w =>
  ld1 t71_2 (fun t72_2 w =>
  cl Tryz.prog 136 #[t14, t72_2] (fun t73_2 w =>
  fd 6 t3 (fun t75_2 w =>
  ld1 t75_2 (fun t76_2 w =>
  cl Tryz.prog 136 #[t73_2, t76_2] (fun t77_2 w =>
  s182_p1 K t77_2 w) w) w) w) w) w) w)
  (boI .eql t16 (.int .u8 18) (fun t79_2 w =>
  ifb t79_2
  (fd 2 t3 (fun t81_2 w =>
  ld1 t81_2 (fun t82_2 w =>
  cl Tryz.prog 136 #[t14, t82_2] (fun t83_2 w =>
  fd 3 t3 (fun t85_2 w =>
  ld1 t85_2 (fun t86_2 w =>
  cl Tryz.prog 136 #[t83_2, t86_2] (fun t87_2 w =>
  s182_p1 K t87_2 w) w) w) w) w) w) w)
  (boI .eql t16 (.int .u8 19) (fun t89_2 w =>
  ifb t89_2
  (fd 2 t3 (fun t91_2 w =>
  ld1 t91_2 (fun t92_2 w =>
  cl Tryz.prog 136 #[t14, t92_2] (fun t93_2 w =>
  s182_p1 K t93_2 w) w) w) w)
  (boI .eql t16 (.int .u8 21) (fun t95_2 w =>
  ifb t95_2
  (fd 2 t3 (fun t97_2 w =>
  ld1 t97_2 (fun t98_2 w =>
  cl Tryz.prog 136 #[t14, t98_2] (fun t99_2 w =>
  fd 4 t3 (fun t101_2 w =>
  ld1 t101_2 (fun t102_2 w =>
  cl Tryz.prog 136 #[t99_2, t102_2] (fun t103_2 w =>
  fd 5 t3 (fun t105_2 w =>
  ld1 t105_2 (fun t106_2 w =>
  cl Tryz.prog 136 #[t103_2, t106_2] (fun t107_2 w =>
  fd 3 t3 (fun t109_2 w =>
  ld1 t109_2 (fun t110_2 w =>
  cl Tryz.prog 136 #[t107_2, t110_2] (fun t111_2 w =>
  s182_p1 K t111_2 w) w) w) w) w) w) w) w) w) w) w) w) w)
  (s182_p1 K t14 w)) w)) w)) w)) w))
  (boI .eql t16 (.int .u8 4) (fun t59 w =>
  ifb t59
  (ifb t59
  (fd 1 t3 (fun t65_3 w =>
  ld1 t65_3 (fun t66_3 w =>
  cl Tryz.prog 136 #[t14, t66_3] (fun t67_3 w =>
  s182_p1 K t67_3 w) w) w) w)
  (boI .eql t16 (.int .u8 17) (fun t69_3 w =>
  ifb t69_3
  (fd 1 t3 (fun t71_3 w =>
  ld1 t71_3 (fun t72_3 w =>
  cl Tryz.prog 136 #[t14, t72_3] (fun t73_3 w =>
  fd 6 t3 (fun t75_3 w =>
  ld1 t75_3 (fun t76_3 w =>
  cl Tryz.prog 136 #[t73_3, t76_3] (fun t77_3 w =>
  s182_p1 K t77_3 w) w) w) w) w) w) w)
  (boI .eql t16 (.int .u8 18) (fun t79_3 w =>
  ifb t79_3
  (fd 2 t3 (fun t81_3 w =>
  ld1 t81_3 (fun t82_3 w =>
  cl Tryz.prog 136 #[t14, t82_3] (fun t83_3 w =>
  fd 3 t3 (fun t85_3 w =>
  ld1 t85_3 (fun t86_3 w =>
  cl Tryz.prog 136 #[t83_3, t86_3] (fun t87_3 w =>
  s182_p1 K t87_3 w) w) w) w) w) w) w)
  (boI .eql t16 (.int .u8 19) (fun t89_3 w =>
  ifb t89_3
  (fd 2 t3 (fun t91_3 w =>
  ld1 t91_3 (fun t92_3 w =>
  cl Tryz.prog 136 #[t14, t92_3] (fun t93_3 w =>
  s182_p1 K t93_3 w) w) w) w)
  (boI .eql t16 (.int .u8 21) (fun t95_3 w =>
  ifb t95_3
  (fd 2 t3 (fun t97_3 w =>
  ld1 t97_3 (fun t98_3 w =>
  cl Tryz.prog 136 #[t14, t98_3] (fun t99_3 w =>
  fd 4 t3 (fun t101_3 w =>
  ld1 t101_3 (fun t102_3 w =>
  cl Tryz.prog 136 #[t99_3, t102_3] (fun t103_3 w =>
  fd 5 t3 (fun t105_3 w =>
  ld1 t105_3 (fun t106_3 w =>
  cl Tryz.prog 136 #[t103_3, t106_3] (fun t107_3 w =>
  fd 3 t3 (fun t109_3 w =>
  ld1 t109_3 (fun t110_3 w =>
  cl Tryz.prog 136 #[t107_3, t110_3] (fun t111_3 w =>
  s182_p1 K t111_3 w) w) w) w) w) w) w) w) w) w) w) w) w)
  (s182_p1 K t14 w)) w)) w)) w)) w))
  (boI .eql t16 (.int .u8 7) (fun t60 w =>
  ifb t60
  (ifb t60
  (fd 1 t3 (fun t65_4 w =>
  ld1 t65_4 (fun t66_4 w =>
  cl Tryz.prog 136 #[t14, t66_4] (fun t67_4 w =>
  s182_p1 K t67_4 w) w) w) w)
  (boI .eql t16 (.int .u8 17) (fun t69_4 w =>
  ifb t69_4
  (fd 1 t3 (fun t71_4 w =>
  ld1 t71_4 (fun t72_4 w =>
  cl Tryz.prog 136 #[t14, t72_4] (fun t73_4 w =>
  fd 6 t3 (fun t75_4 w =>
  ld1 t75_4 (fun t76_4 w =>
  cl Tryz.prog 136 #[t73_4, t76_4] (fun t77_4 w =>
  s182_p1 K t77_4 w) w) w) w) w) w) w)
  (boI .eql t16 (.int .u8 18) (fun t79_4 w =>
  ifb t79_4
  (fd 2 t3 (fun t81_4 w =>
  ld1 t81_4 (fun t82_4 w =>
  cl Tryz.prog 136 #[t14, t82_4] (fun t83_4 w =>
  fd 3 t3 (fun t85_4 w =>
  ld1 t85_4 (fun t86_4 w =>
  cl Tryz.prog 136 #[t83_4, t86_4] (fun t87_4 w =>
  s182_p1 K t87_4 w) w) w) w) w) w) w)
  (boI .eql t16 (.int .u8 19) (fun t89_4 w =>
  ifb t89_4
  (fd 2 t3 (fun t91_4 w =>
  ld1 t91_4 (fun t92_4 w =>
  cl Tryz.prog 136 #[t14, t92_4] (fun t93_4 w =>
  s182_p1 K t93_4 w) w) w) w)
  (boI .eql t16 (.int .u8 21) (fun t95_4 w =>
  ifb t95_4
  (fd 2 t3 (fun t97_4 w =>
  ld1 t97_4 (fun t98_4 w =>
  cl Tryz.prog 136 #[t14, t98_4] (fun t99_4 w =>
  fd 4 t3 (fun t101_4 w =>
  ld1 t101_4 (fun t102_4 w =>
  cl Tryz.prog 136 #[t99_4, t102_4] (fun t103_4 w =>
  fd 5 t3 (fun t105_4 w =>
  ld1 t105_4 (fun t106_4 w =>
  cl Tryz.prog 136 #[t103_4, t106_4] (fun t107_4 w =>
  fd 3 t3 (fun t109_4 w =>
  ld1 t109_4 (fun t110_4 w =>
  cl Tryz.prog 136 #[t107_4, t110_4] (fun t111_4 w =>
  s182_p1 K t111_4 w) w) w) w) w) w) w) w) w) w) w) w) w)
  (s182_p1 K t14 w)) w)) w)) w)) w))
  (boI .eql t16 (.int .u8 8) (fun t61 w =>
  ifb t61
  (ifb t61
  (fd 1 t3 (fun t65_5 w =>
  ld1 t65_5 (fun t66_5 w =>
  cl Tryz.prog 136 #[t14, t66_5] (fun t67_5 w =>
  s182_p1 K t67_5 w) w) w) w)
  (boI .eql t16 (.int .u8 17) (fun t69_5 w =>
  ifb t69_5
  (fd 1 t3 (fun t71_5 w =>
  ld1 t71_5 (fun t72_5 w =>
  cl Tryz.prog 136 #[t14, t72_5] (fun t73_5 w =>
  fd 6 t3 (fun t75_5 w =>
  ld1 t75_5 (fun t76_5 w =>
  cl Tryz.prog 136 #[t73_5, t76_5] (fun t77_5 w =>
  s182_p1 K t77_5 w) w) w) w) w) w) w)
  (boI .eql t16 (.int .u8 18) (fun t79_5 w =>
  ifb t79_5
  (fd 2 t3 (fun t81_5 w =>
  ld1 t81_5 (fun t82_5 w =>
  cl Tryz.prog 136 #[t14, t82_5] (fun t83_5 w =>
  fd 3 t3 (fun t85_5 w =>
  ld1 t85_5 (fun t86_5 w =>
  cl Tryz.prog 136 #[t83_5, t86_5] (fun t87_5 w =>
  s182_p1 K t87_5 w) w) w) w) w) w) w)
  (boI .eql t16 (.int .u8 19) (fun t89_5 w =>
  ifb t89_5
  (fd 2 t3 (fun t91_5 w =>
  ld1 t91_5 (fun t92_5 w =>
  cl Tryz.prog 136 #[t14, t92_5] (fun t93_5 w =>
  s182_p1 K t93_5 w) w) w) w)
  (boI .eql t16 (.int .u8 21) (fun t95_5 w =>
  ifb t95_5
  (fd 2 t3 (fun t97_5 w =>
  ld1 t97_5 (fun t98_5 w =>
  cl Tryz.prog 136 #[t14, t98_5] (fun t99_5 w =>
  fd 4 t3 (fun t101_5 w =>
  ld1 t101_5 (fun t102_5 w =>
  cl Tryz.prog 136 #[t99_5, t102_5] (fun t103_5 w =>
  fd 5 t3 (fun t105_5 w =>
  ld1 t105_5 (fun t106_5 w =>
  cl Tryz.prog 136 #[t103_5, t106_5] (fun t107_5 w =>
  fd 3 t3 (fun t109_5 w =>
  ld1 t109_5 (fun t110_5 w =>
  cl Tryz.prog 136 #[t107_5, t110_5] (fun t111_5 w =>
  s182_p1 K t111_5 w) w) w) w) w) w) w) w) w) w) w) w) w)
  (s182_p1 K t14 w)) w)) w)) w)) w))
  (boI .eql t16 (.int .u8 16) (fun t62 w =>
  ifb t62
  (ifb t62
  (fd 1 t3 (fun t65_6 w =>
  ld1 t65_6 (fun t66_6 w =>
  cl Tryz.prog 136 #[t14, t66_6] (fun t67_6 w =>
  s182_p1 K t67_6 w) w) w) w)
  (boI .eql t16 (.int .u8 17) (fun t69_6 w =>
  ifb t69_6
  (fd 1 t3 (fun t71_6 w =>
  ld1 t71_6 (fun t72_6 w =>
  cl Tryz.prog 136 #[t14, t72_6] (fun t73_6 w =>
  fd 6 t3 (fun t75_6 w =>
  ld1 t75_6 (fun t76_6 w =>
  cl Tryz.prog 136 #[t73_6, t76_6] (fun t77_6 w =>
  s182_p1 K t77_6 w) w) w) w) w) w) w)
  (boI .eql t16 (.int .u8 18) (fun t79_6 w =>
  ifb t79_6
  (fd 2 t3 (fun t81_6 w =>
  ld1 t81_6 (fun t82_6 w =>
  cl Tryz.prog 136 #[t14, t82_6] (fun t83_6 w =>
  fd 3 t3 (fun t85_6 w =>
  ld1 t85_6 (fun t86_6 w =>
  cl Tryz.prog 136 #[t83_6, t86_6] (fun t87_6 w =>
  s182_p1 K t87_6 w) w) w) w) w) w) w)
  (boI .eql t16 (.int .u8 19) (fun t89_6 w =>
  ifb t89_6
  (fd 2 t3 (fun t91_6 w =>
  ld1 t91_6 (fun t92_6 w =>
  cl Tryz.prog 136 #[t14, t92_6] (fun t93_6 w =>
  s182_p1 K t93_6 w) w) w) w)
  (boI .eql t16 (.int .u8 21) (fun t95_6 w =>
  ifb t95_6
  (fd 2 t3 (fun t97_6 w =>
  ld1 t97_6 (fun t98_6 w =>
  cl Tryz.prog 136 #[t14, t98_6] (fun t99_6 w =>
  fd 4 t3 (fun t101_6 w =>
  ld1 t101_6 (fun t102_6 w =>
  cl Tryz.prog 136 #[t99_6, t102_6] (fun t103_6 w =>
  fd 5 t3 (fun t105_6 w =>
  ld1 t105_6 (fun t106_6 w =>
  cl Tryz.prog 136 #[t103_6, t106_6] (fun t107_6 w =>
  fd 3 t3 (fun t109_6 w =>
  ld1 t109_6 (fun t110_6 w =>
  cl Tryz.prog 136 #[t107_6, t110_6] (fun t111_6 w =>
  s182_p1 K t111_6 w) w) w) w) w) w) w) w) w) w) w) w) w)
  (s182_p1 K t14 w)) w)) w)) w)) w))
  (boI .eql t16 (.int .u8 24) (fun t63 w =>
  ifb t63
  (fd 1 t3 (fun t65_7 w =>
  ld1 t65_7 (fun t66_7 w =>
  cl Tryz.prog 136 #[t14, t66_7] (fun t67_7 w =>
  s182_p1 K t67_7 w) w) w) w)
  (boI .eql t16 (.int .u8 17) (fun t69_7 w =>
  ifb t69_7
  (fd 1 t3 (fun t71_7 w =>
  ld1 t71_7 (fun t72_7 w =>
  cl Tryz.prog 136 #[t14, t72_7] (fun t73_7 w =>
  fd 6 t3 (fun t75_7 w =>
  ld1 t75_7 (fun t76_7 w =>
  cl Tryz.prog 136 #[t73_7, t76_7] (fun t77_7 w =>
  s182_p1 K t77_7 w) w) w) w) w) w) w)
  (boI .eql t16 (.int .u8 18) (fun t79_7 w =>
  ifb t79_7
  (fd 2 t3 (fun t81_7 w =>
  ld1 t81_7 (fun t82_7 w =>
  cl Tryz.prog 136 #[t14, t82_7] (fun t83_7 w =>
  fd 3 t3 (fun t85_7 w =>
  ld1 t85_7 (fun t86_7 w =>
  cl Tryz.prog 136 #[t83_7, t86_7] (fun t87_7 w =>
  s182_p1 K t87_7 w) w) w) w) w) w) w)
  (boI .eql t16 (.int .u8 19) (fun t89_7 w =>
  ifb t89_7
  (fd 2 t3 (fun t91_7 w =>
  ld1 t91_7 (fun t92_7 w =>
  cl Tryz.prog 136 #[t14, t92_7] (fun t93_7 w =>
  s182_p1 K t93_7 w) w) w) w)
  (boI .eql t16 (.int .u8 21) (fun t95_7 w =>
  ifb t95_7
  (fd 2 t3 (fun t97_7 w =>
  ld1 t97_7 (fun t98_7 w =>
  cl Tryz.prog 136 #[t14, t98_7] (fun t99_7 w =>
  fd 4 t3 (fun t101_7 w =>
  ld1 t101_7 (fun t102_7 w =>
  cl Tryz.prog 136 #[t99_7, t102_7] (fun t103_7 w =>
  fd 5 t3 (fun t105_7 w =>
  ld1 t105_7 (fun t106_7 w =>
  cl Tryz.prog 136 #[t103_7, t106_7] (fun t107_7 w =>
  fd 3 t3 (fun t109_7 w =>
  ld1 t109_7 (fun t110_7 w =>
  cl Tryz.prog 136 #[t107_7, t110_7] (fun t111_7 w =>
  s182_p1 K t111_7 w) w) w) w) w) w) w) w) w) w) w) w) w)
  (s182_p1 K t14 w)) w)) w)) w)) w)) w)) w)) w)) w)) w)) w)) w)) w)) w))
  (boI .eql t16 (.int .u8 22) (fun t19 w =>
  ifb t19
  (fd 4 t3 (fun t21_2 w =>
  ld1 t21_2 (fun t22_2 w =>
  cl Tryz.prog 136 #[t14, t22_2] (fun t23_2 w =>
  fd 5 t3 (fun t25_2 w =>
  ld1 t25_2 (fun t26_2 w =>
  cl Tryz.prog 136 #[t23_2, t26_2] (fun t27_2 w =>
  fd 7 t3 (fun t29_2 w =>
  ld1 t29_2 (fun t30_2 w =>
  cl Tryz.prog 216 #[t27_2, t30_2] (fun t31_2 w =>
  s182_p1 K t31_2 w) w) w) w) w) w) w) w) w) w)
  (boI .eql t16 (.int .u8 5) (fun t33_2 w =>
  ifb t33_2
  (fd 1 t3 (fun t35_2 w =>
  ld1 t35_2 (fun t36_2 w =>
  cl Tryz.prog 136 #[t14, t36_2] (fun t37_2 w =>
  fd 7 t3 (fun t39_2 w =>
  ld1 t39_2 (fun t40_2 w =>
  cl Tryz.prog 216 #[t37_2, t40_2] (fun t41_2 w =>
  s182_p1 K t41_2 w) w) w) w) w) w) w)
  (boI .eql t16 (.int .u8 6) (fun t43_2 w =>
  ifb t43_2
  (fd 2 t3 (fun t45_2 w =>
  ld1 t45_2 (fun t46_2 w =>
  cl Tryz.prog 136 #[t14, t46_2] (fun t47_2 w =>
  fd 4 t3 (fun t49_2 w =>
  ld1 t49_2 (fun t50_2 w =>
  cl Tryz.prog 136 #[t47_2, t50_2] (fun t51_2 w =>
  fd 5 t3 (fun t53_2 w =>
  ld1 t53_2 (fun t54_2 w =>
  cl Tryz.prog 136 #[t51_2, t54_2] (fun t55_2 w =>
  s182_p1 K t55_2 w) w) w) w) w) w) w) w) w) w)
  (boI .eql t16 (.int .u8 2) (fun t57_2 w =>
  ifb t57_2
  (ifb t57_2
  (fd 1 t3 (fun t65_8 w =>
  ld1 t65_8 (fun t66_8 w =>
  cl Tryz.prog 136 #[t14, t66_8] (fun t67_8 w =>
  s182_p1 K t67_8 w) w) w) w)
  (boI .eql t16 (.int .u8 17) (fun t69_8 w =>
  ifb t69_8
  (fd 1 t3 (fun t71_8 w =>
  ld1 t71_8 (fun t72_8 w =>
  cl Tryz.prog 136 #[t14, t72_8] (fun t73_8 w =>
  fd 6 t3 (fun t75_8 w =>
  ld1 t75_8 (fun t76_8 w =>
  cl Tryz.prog 136 #[t73_8, t76_8] (fun t77_8 w =>
  s182_p1 K t77_8 w) w) w) w) w) w) w)
  (boI .eql t16 (.int .u8 18) (fun t79_8 w =>
  ifb t79_8
  (fd 2 t3 (fun t81_8 w =>
  ld1 t81_8 (fun t82_8 w =>
  cl Tryz.prog 136 #[t14, t82_8] (fun t83_8 w =>
  fd 3 t3 (fun t85_8 w =>
  ld1 t85_8 (fun t86_8 w =>
  cl Tryz.prog 136 #[t83_8, t86_8] (fun t87_8 w =>
  s182_p1 K t87_8 w) w) w) w) w) w) w)
  (boI .eql t16 (.int .u8 19) (fun t89_8 w =>
  ifb t89_8
  (fd 2 t3 (fun t91_8 w =>
  ld1 t91_8 (fun t92_8 w =>
  cl Tryz.prog 136 #[t14, t92_8] (fun t93_8 w =>
  s182_p1 K t93_8 w) w) w) w)
  (boI .eql t16 (.int .u8 21) (fun t95_8 w =>
  ifb t95_8
  (fd 2 t3 (fun t97_8 w =>
  ld1 t97_8 (fun t98_8 w =>
  cl Tryz.prog 136 #[t14, t98_8] (fun t99_8 w =>
  fd 4 t3 (fun t101_8 w =>
  ld1 t101_8 (fun t102_8 w =>
  cl Tryz.prog 136 #[t99_8, t102_8] (fun t103_8 w =>
  fd 5 t3 (fun t105_8 w =>
  ld1 t105_8 (fun t106_8 w =>
  cl Tryz.prog 136 #[t103_8, t106_8] (fun t107_8 w =>
  fd 3 t3 (fun t109_8 w =>
  ld1 t109_8 (fun t110_8 w =>
  cl Tryz.prog 136 #[t107_8, t110_8] (fun t111_8 w =>
  s182_p1 K t111_8 w) w) w) w) w) w) w) w) w) w) w) w) w)
  (s182_p1 K t14 w)) w)) w)) w)) w))
  (boI .eql t16 (.int .u8 3) (fun t58_2 w =>
  ifb t58_2
  (ifb t58_2
  (fd 1 t3 (fun t65_9 w =>
  ld1 t65_9 (fun t66_9 w =>
  cl Tryz.prog 136 #[t14, t66_9] (fun t67_9 w =>
  s182_p1 K t67_9 w) w) w) w)
  (boI .eql t16 (.int .u8 17) (fun t69_9 w =>
  ifb t69_9
  (fd 1 t3 (fun t71_9 w =>
  ld1 t71_9 (fun t72_9 w =>
  cl Tryz.prog 136 #[t14, t72_9] (fun t73_9 w =>
  fd 6 t3 (fun t75_9 w =>
  ld1 t75_9 (fun t76_9 w =>
  cl Tryz.prog 136 #[t73_9, t76_9] (fun t77_9 w =>
  s182_p1 K t77_9 w) w) w) w) w) w) w)
  (boI .eql t16 (.int .u8 18) (fun t79_9 w =>
  ifb t79_9
  (fd 2 t3 (fun t81_9 w =>
  ld1 t81_9 (fun t82_9 w =>
  cl Tryz.prog 136 #[t14, t82_9] (fun t83_9 w =>
  fd 3 t3 (fun t85_9 w =>
  ld1 t85_9 (fun t86_9 w =>
  cl Tryz.prog 136 #[t83_9, t86_9] (fun t87_9 w =>
  s182_p1 K t87_9 w) w) w) w) w) w) w)
  (boI .eql t16 (.int .u8 19) (fun t89_9 w =>
  ifb t89_9
  (fd 2 t3 (fun t91_9 w =>
  ld1 t91_9 (fun t92_9 w =>
  cl Tryz.prog 136 #[t14, t92_9] (fun t93_9 w =>
  s182_p1 K t93_9 w) w) w) w)
  (boI .eql t16 (.int .u8 21) (fun t95_9 w =>
  ifb t95_9
  (fd 2 t3 (fun t97_9 w =>
  ld1 t97_9 (fun t98_9 w =>
  cl Tryz.prog 136 #[t14, t98_9] (fun t99_9 w =>
  fd 4 t3 (fun t101_9 w =>
  ld1 t101_9 (fun t102_9 w =>
  cl Tryz.prog 136 #[t99_9, t102_9] (fun t103_9 w =>
  fd 5 t3 (fun t105_9 w =>
  ld1 t105_9 (fun t106_9 w =>
  cl Tryz.prog 136 #[t103_9, t106_9] (fun t107_9 w =>
  fd 3 t3 (fun t109_9 w =>
  ld1 t109_9 (fun t110_9 w =>
  cl Tryz.prog 136 #[t107_9, t110_9] (fun t111_9 w =>
  s182_p1 K t111_9 w) w) w) w) w) w) w) w) w) w) w) w) w)
  (s182_p1 K t14 w)) w)) w)) w)) w))
  (boI .eql t16 (.int .u8 4) (fun t59_2 w =>
  ifb t59_2
  (ifb t59_2
  (fd 1 t3 (fun t65_10 w =>
  ld1 t65_10 (fun t66_10 w =>
  cl Tryz.prog 136 #[t14, t66_10] (fun t67_10 w =>
  s182_p1 K t67_10 w) w) w) w)
  (boI .eql t16 (.int .u8 17) (fun t69_10 w =>
  ifb t69_10
  (fd 1 t3 (fun t71_10 w =>
  ld1 t71_10 (fun t72_10 w =>
  cl Tryz.prog 136 #[t14, t72_10] (fun t73_10 w =>
  fd 6 t3 (fun t75_10 w =>
  ld1 t75_10 (fun t76_10 w =>
  cl Tryz.prog 136 #[t73_10, t76_10] (fun t77_10 w =>
  s182_p1 K t77_10 w) w) w) w) w) w) w)
  (boI .eql t16 (.int .u8 18) (fun t79_10 w =>
  ifb t79_10
  (fd 2 t3 (fun t81_10 w =>
  ld1 t81_10 (fun t82_10 w =>
  cl Tryz.prog 136 #[t14, t82_10] (fun t83_10 w =>
  fd 3 t3 (fun t85_10 w =>
  ld1 t85_10 (fun t86_10 w =>
  cl Tryz.prog 136 #[t83_10, t86_10] (fun t87_10 w =>
  s182_p1 K t87_10 w) w) w) w) w) w) w)
  (boI .eql t16 (.int .u8 19) (fun t89_10 w =>
  ifb t89_10
  (fd 2 t3 (fun t91_10 w =>
  ld1 t91_10 (fun t92_10 w =>
  cl Tryz.prog 136 #[t14, t92_10] (fun t93_10 w =>
  s182_p1 K t93_10 w) w) w) w)
  (boI .eql t16 (.int .u8 21) (fun t95_10 w =>
  ifb t95_10
  (fd 2 t3 (fun t97_10 w =>
  ld1 t97_10 (fun t98_10 w =>
  cl Tryz.prog 136 #[t14, t98_10] (fun t99_10 w =>
  fd 4 t3 (fun t101_10 w =>
  ld1 t101_10 (fun t102_10 w =>
  cl Tryz.prog 136 #[t99_10, t102_10] (fun t103_10 w =>
  fd 5 t3 (fun t105_10 w =>
  ld1 t105_10 (fun t106_10 w =>
  cl Tryz.prog 136 #[t103_10, t106_10] (fun t107_10 w =>
  fd 3 t3 (fun t109_10 w =>
  ld1 t109_10 (fun t110_10 w =>
  cl Tryz.prog 136 #[t107_10, t110_10] (fun t111_10 w =>
  s182_p1 K t111_10 w) w) w) w) w) w) w) w) w) w) w) w) w)
  (s182_p1 K t14 w)) w)) w)) w)) w))
  (boI .eql t16 (.int .u8 7) (fun t60_2 w =>
  ifb t60_2
  (ifb t60_2
  (fd 1 t3 (fun t65_11 w =>
  ld1 t65_11 (fun t66_11 w =>
  cl Tryz.prog 136 #[t14, t66_11] (fun t67_11 w =>
  s182_p1 K t67_11 w) w) w) w)
  (boI .eql t16 (.int .u8 17) (fun t69_11 w =>
  ifb t69_11
  (fd 1 t3 (fun t71_11 w =>
  ld1 t71_11 (fun t72_11 w =>
  cl Tryz.prog 136 #[t14, t72_11] (fun t73_11 w =>
  fd 6 t3 (fun t75_11 w =>
  ld1 t75_11 (fun t76_11 w =>
  cl Tryz.prog 136 #[t73_11, t76_11] (fun t77_11 w =>
  s182_p1 K t77_11 w) w) w) w) w) w) w)
  (boI .eql t16 (.int .u8 18) (fun t79_11 w =>
  ifb t79_11
  (fd 2 t3 (fun t81_11 w =>
  ld1 t81_11 (fun t82_11 w =>
  cl Tryz.prog 136 #[t14, t82_11] (fun t83_11 w =>
  fd 3 t3 (fun t85_11 w =>
  ld1 t85_11 (fun t86_11 w =>
  cl Tryz.prog 136 #[t83_11, t86_11] (fun t87_11 w =>
  s182_p1 K t87_11 w) w) w) w) w) w) w)
  (boI .eql t16 (.int .u8 19) (fun t89_11 w =>
  ifb t89_11
  (fd 2 t3 (fun t91_11 w =>
  ld1 t91_11 (fun t92_11 w =>
  cl Tryz.prog 136 #[t14, t92_11] (fun t93_11 w =>
  s182_p1 K t93_11 w) w) w) w)
  (boI .eql t16 (.int .u8 21) (fun t95_11 w =>
  ifb t95_11
  (fd 2 t3 (fun t97_11 w =>
  ld1 t97_11 (fun t98_11 w =>
  cl Tryz.prog 136 #[t14, t98_11] (fun t99_11 w =>
  fd 4 t3 (fun t101_11 w =>
  ld1 t101_11 (fun t102_11 w =>
  cl Tryz.prog 136 #[t99_11, t102_11] (fun t103_11 w =>
  fd 5 t3 (fun t105_11 w =>
  ld1 t105_11 (fun t106_11 w =>
  cl Tryz.prog 136 #[t103_11, t106_11] (fun t107_11 w =>
  fd 3 t3 (fun t109_11 w =>
  ld1 t109_11 (fun t110_11 w =>
  cl Tryz.prog 136 #[t107_11, t110_11] (fun t111_11 w =>
  s182_p1 K t111_11 w) w) w) w) w) w) w) w) w) w) w) w) w)
  (s182_p1 K t14 w)) w)) w)) w)) w))
  (boI .eql t16 (.int .u8 8) (fun t61_2 w =>
  ifb t61_2
  (ifb t61_2
  (fd 1 t3 (fun t65_12 w =>
  ld1 t65_12 (fun t66_12 w =>
  cl Tryz.prog 136 #[t14, t66_12] (fun t67_12 w =>
  s182_p1 K t67_12 w) w) w) w)
  (boI .eql t16 (.int .u8 17) (fun t69_12 w =>
  ifb t69_12
  (fd 1 t3 (fun t71_12 w =>
  ld1 t71_12 (fun t72_12 w =>
  cl Tryz.prog 136 #[t14, t72_12] (fun t73_12 w =>
  fd 6 t3 (fun t75_12 w =>
  ld1 t75_12 (fun t76_12 w =>
  cl Tryz.prog 136 #[t73_12, t76_12] (fun t77_12 w =>
  s182_p1 K t77_12 w) w) w) w) w) w) w)
  (boI .eql t16 (.int .u8 18) (fun t79_12 w =>
  ifb t79_12
  (fd 2 t3 (fun t81_12 w =>
  ld1 t81_12 (fun t82_12 w =>
  cl Tryz.prog 136 #[t14, t82_12] (fun t83_12 w =>
  fd 3 t3 (fun t85_12 w =>
  ld1 t85_12 (fun t86_12 w =>
  cl Tryz.prog 136 #[t83_12, t86_12] (fun t87_12 w =>
  s182_p1 K t87_12 w) w) w) w) w) w) w)
  (boI .eql t16 (.int .u8 19) (fun t89_12 w =>
  ifb t89_12
  (fd 2 t3 (fun t91_12 w =>
  ld1 t91_12 (fun t92_12 w =>
  cl Tryz.prog 136 #[t14, t92_12] (fun t93_12 w =>
  s182_p1 K t93_12 w) w) w) w)
  (boI .eql t16 (.int .u8 21) (fun t95_12 w =>
  ifb t95_12
  (fd 2 t3 (fun t97_12 w =>
  ld1 t97_12 (fun t98_12 w =>
  cl Tryz.prog 136 #[t14, t98_12] (fun t99_12 w =>
  fd 4 t3 (fun t101_12 w =>
  ld1 t101_12 (fun t102_12 w =>
  cl Tryz.prog 136 #[t99_12, t102_12] (fun t103_12 w =>
  fd 5 t3 (fun t105_12 w =>
  ld1 t105_12 (fun t106_12 w =>
  cl Tryz.prog 136 #[t103_12, t106_12] (fun t107_12 w =>
  fd 3 t3 (fun t109_12 w =>
  ld1 t109_12 (fun t110_12 w =>
  cl Tryz.prog 136 #[t107_12, t110_12] (fun t111_12 w =>
  s182_p1 K t111_12 w) w) w) w) w) w) w) w) w) w) w) w) w)
  (s182_p1 K t14 w)) w)) w)) w)) w))
  (boI .eql t16 (.int .u8 16) (fun t62_2 w =>
  ifb t62_2
  (ifb t62_2
  (fd 1 t3 (fun t65_13 w =>
  ld1 t65_13 (fun t66_13 w =>
  cl Tryz.prog 136 #[t14, t66_13] (fun t67_13 w =>
  s182_p1 K t67_13 w) w) w) w)
  (boI .eql t16 (.int .u8 17) (fun t69_13 w =>
  ifb t69_13
  (fd 1 t3 (fun t71_13 w =>
  ld1 t71_13 (fun t72_13 w =>
  cl Tryz.prog 136 #[t14, t72_13] (fun t73_13 w =>
  fd 6 t3 (fun t75_13 w =>
  ld1 t75_13 (fun t76_13 w =>
  cl Tryz.prog 136 #[t73_13, t76_13] (fun t77_13 w =>
  s182_p1 K t77_13 w) w) w) w) w) w) w)
  (boI .eql t16 (.int .u8 18) (fun t79_13 w =>
  ifb t79_13
  (fd 2 t3 (fun t81_13 w =>
  ld1 t81_13 (fun t82_13 w =>
  cl Tryz.prog 136 #[t14, t82_13] (fun t83_13 w =>
  fd 3 t3 (fun t85_13 w =>
  ld1 t85_13 (fun t86_13 w =>
  cl Tryz.prog 136 #[t83_13, t86_13] (fun t87_13 w =>
  s182_p1 K t87_13 w) w) w) w) w) w) w)
  (boI .eql t16 (.int .u8 19) (fun t89_13 w =>
  ifb t89_13
  (fd 2 t3 (fun t91_13 w =>
  ld1 t91_13 (fun t92_13 w =>
  cl Tryz.prog 136 #[t14, t92_13] (fun t93_13 w =>
  s182_p1 K t93_13 w) w) w) w)
  (boI .eql t16 (.int .u8 21) (fun t95_13 w =>
  ifb t95_13
  (fd 2 t3 (fun t97_13 w =>
  ld1 t97_13 (fun t98_13 w =>
  cl Tryz.prog 136 #[t14, t98_13] (fun t99_13 w =>
  fd 4 t3 (fun t101_13 w =>
  ld1 t101_13 (fun t102_13 w =>
  cl Tryz.prog 136 #[t99_13, t102_13] (fun t103_13 w =>
  fd 5 t3 (fun t105_13 w =>
  ld1 t105_13 (fun t106_13 w =>
  cl Tryz.prog 136 #[t103_13, t106_13] (fun t107_13 w =>
  fd 3 t3 (fun t109_13 w =>
  ld1 t109_13 (fun t110_13 w =>
  cl Tryz.prog 136 #[t107_13, t110_13] (fun t111_13 w =>
  s182_p1 K t111_13 w) w) w) w) w) w) w) w) w) w) w) w) w)
  (s182_p1 K t14 w)) w)) w)) w)) w))
  (boI .eql t16 (.int .u8 24) (fun t63_2 w =>
  ifb t63_2
  (fd 1 t3 (fun t65_14 w =>
  ld1 t65_14 (fun t66_14 w =>
  cl Tryz.prog 136 #[t14, t66_14] (fun t67_14 w =>
  s182_p1 K t67_14 w) w) w) w)
  (boI .eql t16 (.int .u8 17) (fun t69_14 w =>
  ifb t69_14
  (fd 1 t3 (fun t71_14 w =>
  ld1 t71_14 (fun t72_14 w =>
  cl Tryz.prog 136 #[t14, t72_14] (fun t73_14 w =>
  fd 6 t3 (fun t75_14 w =>
  ld1 t75_14 (fun t76_14 w =>
  cl Tryz.prog 136 #[t73_14, t76_14] (fun t77_14 w =>
  s182_p1 K t77_14 w) w) w) w) w) w) w)
  (boI .eql t16 (.int .u8 18) (fun t79_14 w =>
  ifb t79_14
  (fd 2 t3 (fun t81_14 w =>
  ld1 t81_14 (fun t82_14 w =>
  cl Tryz.prog 136 #[t14, t82_14] (fun t83_14 w =>
  fd 3 t3 (fun t85_14 w =>
  ld1 t85_14 (fun t86_14 w =>
  cl Tryz.prog 136 #[t83_14, t86_14] (fun t87_14 w =>
  s182_p1 K t87_14 w) w) w) w) w) w) w)
  (boI .eql t16 (.int .u8 19) (fun t89_14 w =>
  ifb t89_14
  (fd 2 t3 (fun t91_14 w =>
  ld1 t91_14 (fun t92_14 w =>
  cl Tryz.prog 136 #[t14, t92_14] (fun t93_14 w =>
  s182_p1 K t93_14 w) w) w) w)
  (boI .eql t16 (.int .u8 21) (fun t95_14 w =>
  ifb t95_14
  (fd 2 t3 (fun t97_14 w =>
  ld1 t97_14 (fun t98_14 w =>
  cl Tryz.prog 136 #[t14, t98_14] (fun t99_14 w =>
  fd 4 t3 (fun t101_14 w =>
  ld1 t101_14 (fun t102_14 w =>
  cl Tryz.prog 136 #[t99_14, t102_14] (fun t103_14 w =>
  fd 5 t3 (fun t105_14 w =>
  ld1 t105_14 (fun t106_14 w =>
  cl Tryz.prog 136 #[t103_14, t106_14] (fun t107_14 w =>
  fd 3 t3 (fun t109_14 w =>
  ld1 t109_14 (fun t110_14 w =>
  cl Tryz.prog 136 #[t107_14, t110_14] (fun t111_14 w =>
  s182_p1 K t111_14 w) w) w) w) w) w) w) w) w) w) w) w) w)
  (s182_p1 K t14 w)) w)) w)) w)) w)) w)) w)) w)) w)) w)) w)) w)) w)) w)) w)) w) w) w) w) w) w) w)) w) w) w) w
def s182_p2_den (K : Value → World → Prop) : (Nat → Value) → World → Prop := denL Tryz.prog [(cd (Tryz.f182.body.getD .skip) [0]), (cd (Tryz.f182.body.getD .skip) [1, 0, 0]), (cd (Tryz.f182.body.getD .skip) [1, 0, 1]), (cd (Tryz.f182.body.getD .skip) [1, 1, 0]), (cd (Tryz.f182.body.getD .skip) [1, 1, 1, 0, 0]), (cd (Tryz.f182.body.getD .skip) [1, 1, 1, 0, 1])] (s182_p1_den K) (fun i => (fun _ _ => False)) (s182_R K)
theorem s182_p2_ok (K : Value → World → Prop) (s : Nat → Value) (w : World) (h : s182_p2 K (s 0) (s 1) w) : Tr (s182_p2_den K s w) :=
  tr_simple (P := Tryz.prog) (codes := [(cd (Tryz.f182.body.getD .skip) [0]), (cd (Tryz.f182.body.getD .skip) [1, 0, 0]), (cd (Tryz.f182.body.getD .skip) [1, 0, 1]), (cd (Tryz.f182.body.getD .skip) [1, 1, 0]), (cd (Tryz.f182.body.getD .skip) [1, 1, 1, 0, 0]), (cd (Tryz.f182.body.getD .skip) [1, 1, 1, 0, 1])]) (N := (fun s w => s182_p1 K (s 0) w)) (N' := (s182_p1_den K)) (X := (fun i => (fun _ _ => False))) (X' := (fun i => (fun _ _ => False))) (R := s182_R K) (s := s) (w := w) (p := s182_p2 K (s 0) (s 1) w) (q := s182_p2_den K s w) (fun s w h => s182_p1_ok K s w @h) (fun i => tr_id) (by kernel_rfl) (by kernel_rfl) @h
/-- the call, from the text -/
theorem c182 (t0 t1 : Value) {K : Value → World → Prop} {w : World} (h : s182_p2 K t0 t1 w) : cl Tryz.prog 182 #[t0, t1] K w :=
  calls_of_tr (c := (Tryz.f182.body.getD .skip)) (fn := Tryz.f182) (q := s182_p2_den K (st0 #[t0, t1]) w) Tryz.func182 (by kernel_rfl) (by kernel_rfl) (Nat.le_of_ble_eq_true (by kernel_rfl)) (by kernel_rfl) (by kernel_rfl) (s182_p2_ok K (st0 #[t0, t1]) w @h)

/-! ### function 140 : e2e.engine.EncodeRequest -/
def s140_R (K : Value → World → Prop) (s : Nat → Value) (w : World) : Prop := retv Tryz.prog s Tryz.f140.results.toList (fun vs => K (pack vs) w) w
def s140_p1 (K : Value → World → Prop) (t0 : Value) (w : World) : Prop :=
  nw 52 (t0).cells (fun t1 w =>
  ldn 8 t1 (fun t7 w =>
  cl Tryz.prog 182 #[(.slice none 0 0), t7] (fun t8 w =>
  exq t8 0 (fun t9 w =>
  exq t8 1 (fun t10 w =>
  un .not t10 (fun t12 w =>
  ifb t12
  (K (.tuple #[(.slice none 0 0), (.bool false)]) w)
  (K (.tuple #[t9, (.bool true)]) w)) w) w) w) w) w) w
def s140_p1_den (K : Value → World → Prop) : (Nat → Value) → World → Prop := denL Tryz.prog [(cd (Tryz.f140.body.getD .skip) [0]), (cd (Tryz.f140.body.getD .skip) [1, 0]), (cd (Tryz.f140.body.getD .skip) [1, 1, 0, 0]), (cd (Tryz.f140.body.getD .skip) [1, 1, 0, 1]), (cd (Tryz.f140.body.getD .skip) [1, 1, 1, 0]), (cd (Tryz.f140.body.getD .skip) [1, 1, 1, 1])] (fun _ _ => False) (fun i => (fun _ _ => False)) (s140_R K)
theorem s140_p1_ok (K : Value → World → Prop) (s : Nat → Value) (w : World) (h : s140_p1 K (s 0) w) : Tr (s140_p1_den K s w) :=
  tr_simple (P := Tryz.prog) (codes := [(cd (Tryz.f140.body.getD .skip) [0]), (cd (Tryz.f140.body.getD .skip) [1, 0]), (cd (Tryz.f140.body.getD .skip) [1, 1, 0, 0]), (cd (Tryz.f140.body.getD .skip) [1, 1, 0, 1]), (cd (Tryz.f140.body.getD .skip) [1, 1, 1, 0]), (cd (Tryz.f140.body.getD .skip) [1, 1, 1, 1])]) (N := (fun _ _ => False)) (N' := (fun _ _ => False)) (X := (fun i => (fun _ _ => False))) (X' := (fun i => (fun _ _ => False))) (R := s140_R K) (s := s) (w := w) (p := s140_p1 K (s 0) w) (q := s140_p1_den K s w) tr_id (fun i => tr_id) (by kernel_rfl) (by kernel_rfl) @h
/-- the call, from the text -/
theorem c140 (t0 : Value) {K : Value → World → Prop} {w : World} (h : s140_p1 K t0 w) : cl Tryz.prog 140 #[t0] K w :=
  calls_of_tr (c := (Tryz.f140.body.getD .skip)) (fn := Tryz.f140) (q := s140_p1_den K (st0 #[t0]) w) Tryz.func140 (by kernel_rfl) (by kernel_rfl) (Nat.le_of_ble_eq_true (by kernel_rfl)) (by kernel_rfl) (by kernel_rfl) (s140_p1_ok K (st0 #[t0]) w @h)

/-! ### function 183 : e2e.engine.expressible -/
def s183_R (K : Value → World → Prop) (s : Nat → Value) (w : World) : Prop := retv Tryz.prog s Tryz.f183.results.toList (fun vs => K (pack vs) w) w
def s183_p1 (K : Value → World → Prop) (t1 : Value) (w : World) : Prop :=
  fd 0 t1 (fun t53 w =>
  ld1 t53 (fun t54 w =>
  cl Tryz.prog 184 #[t54] (fun t55 w =>
  gd t55 false (fd 0 t1) (fun t57 w =>
  gd t55 false (ld1 t57) (fun t58 w =>
  gd t55 false (cl Tryz.prog 30 #[t58]) (fun t59 w =>
  pk t55 (.bool true) t59 (fun t60 w =>
  K t60 w) w) w) w) w) w) w) w
def s183_p1_den (K : Value → World → Prop) : (Nat → Value) → World → Prop := denL Tryz.prog [(cd (Tryz.f183.body.getD .skip) [1, 1, 1, 1, 0]), (cd (Tryz.f183.body.getD .skip) [1, 1, 1, 1, 1])] (fun _ _ => False) (fun i => (fun _ _ => False)) (s183_R K)
theorem s183_p1_ok (K : Value → World → Prop) (s : Nat → Value) (w : World) (h : s183_p1 K (s 1) w) : Tr (s183_p1_den K s w) :=
  tr_simple (P := Tryz.prog) (codes := [(cd (Tryz.f183.body.getD .skip) [1, 1, 1, 1, 0]), (cd (Tryz.f183.body.getD .skip) [1, 1, 1, 1, 1])]) (N := (fun _ _ => False)) (N' := (fun _ _ => False)) (X := (fun i => (fun _ _ => False))) (X' := (fun i => (fun _ _ => False))) (R := s183_R K) (s := s) (w := w) (p := s183_p1 K (s 1) w) (q := s183_p1_den K s w) tr_id (fun i => tr_id) (by kernel_rfl) (by kernel_rfl) @h
def s183_p2 (K : Value → World → Prop) (B1 : List Value → World → Prop) (t1 t38 t39 t40 : Value) (w : World) : Prop :=
  boI .lss t40 t39 (fun t41 w =>
  ifb t41
  (ixs 2 t38 t40 (fun t42 w =>
  ldn 2 t42 (fun t43 w =>
  nw 88 #[(.int .i64 0), (.int .i64 0)] (fun t4 w =>
  stn 2 t4 t43 (fun w =>
  fd 0 t4 (fun t44 w =>
  ld1 t44 (fun t45 w =>
  boI .lss t45 (.int .i64 0) (fun t46 w =>
  gd t46 false (fd 1 t4) (fun t48 w =>
  gd t46 false (ld1 t48) (fun t49 w =>
  gd t46 false (boI .lss t49 (.int .i64 0)) (fun t50 w =>
  pk t46 (.bool true) t50 (fun t51 w =>
  ifb t51
  (K (.bool false) w)
  (boI .add t40 (.int .i64 1) (fun t52 w =>
  B1 [t1, t38, t39, t52] w) w)) w) w) w) w) w) w) w) w) w) w) w)
  (s183_p1 K t1 w)) w
def s183_p2_den (K : Value → World → Prop) (M1 : (Nat → Value) → World → Prop) : (Nat → Value) → World → Prop := denL Tryz.prog [(cd (Tryz.f183.body.getD .skip) [1, 1, 1, 0, 1, 0, 0, 0]), (cd (Tryz.f183.body.getD .skip) [1, 1, 1, 0, 1, 0, 0, 1, 0]), (cd (Tryz.f183.body.getD .skip) [1, 1, 1, 0, 1, 0, 0, 1, 1, 0]), (cd (Tryz.f183.body.getD .skip) [1, 1, 1, 0, 1, 0, 0, 1, 1, 1])] M1 (fun i => (bif Nat.beq i 0 then (s183_p1_den K) else (fun _ _ => False))) (s183_R K)
theorem s183_p2_ok (K : Value → World → Prop) (B1 : List Value → World → Prop) (s : Nat → Value) (w : World) (h : s183_p2 K B1 (s 1) (s 38) (s 39) (s 40) w) : Tr (s183_p2_den K (fun s w => B1 [s 1, s 38, s 39, s 40] w) s w) :=
  tr_simple (P := Tryz.prog) (codes := [(cd (Tryz.f183.body.getD .skip) [1, 1, 1, 0, 1, 0, 0, 0]), (cd (Tryz.f183.body.getD .skip) [1, 1, 1, 0, 1, 0, 0, 1, 0]), (cd (Tryz.f183.body.getD .skip) [1, 1, 1, 0, 1, 0, 0, 1, 1, 0]), (cd (Tryz.f183.body.getD .skip) [1, 1, 1, 0, 1, 0, 0, 1, 1, 1])]) (N := (fun s w => B1 [s 1, s 38, s 39, s 40] w)) (N' := (fun s w => B1 [s 1, s 38, s 39, s 40] w)) (X := (fun i => (bif Nat.beq i 0 then (fun s w => s183_p1 K (s 1) w) else (fun _ _ => False)))) (X' := (fun i => (bif Nat.beq i 0 then (s183_p1_den K) else (fun _ _ => False)))) (R := s183_R K) (s := s) (w := w) (p := s183_p2 K B1 (s 1) (s 38) (s 39) (s 40) w) (q := s183_p2_den K (fun s w => B1 [s 1, s 38, s 39, s 40] w) s w) tr_id (fun i => (tr_bif (fun s w h => s183_p1_ok K s w @h) tr_id)) (by kernel_rfl) (by kernel_rfl) @h
def s183_p3_F (K : Value → World → Prop) (B1 : List Value → World → Prop) (l : List Value) (w : World) : Prop :=
  match l with
  | [t1, t38, t39, t40] => s183_p2 K B1 t1 t38 t39 t40 w
  | _ => False
theorem s183_p3_Fe {K : Value → World → Prop} {B1 : List Value → World → Prop} {t1 t38 t39 t40 : Value} {w : World} : s183_p3_F K B1 [t1, t38, t39, t40] w = s183_p2 K B1 t1 t38 t39 t40 w := by kernel_rfl
def s183_p3 (K : Value → World → Prop) (t1 t38 t39 t40 : Value) (w : World) : Prop :=
  LoopL (s183_p3_F K) [t1, t38, t39, t40] w
def s183_p3_den (K : Value → World → Prop) : (Nat → Value) → World → Prop := fun s w => LoopP (fun M1 s w => s183_p2_den K M1 s w) s w
theorem s183_p3_ok (K : Value → World → Prop) (s : Nat → Value) (w : World) (h : s183_p3 K (s 1) (s 38) (s 39) (s 40) w) : Tr (s183_p3_den K s w) :=
  tr_loop (G := fun N' s w => s183_p2_den K N' s w) (F := s183_p3_F K) (sel := fun s => [s 1, s 38, s 39, s 40]) (s := s) (w := w) (p := s183_p3 K (s 1) (s 38) (s 39) (s 40) w) (q := s183_p3_den K s w) (fun B s w h => s183_p2_ok K B s w @h) (by kernel_rfl) (by kernel_rfl) @h
def s183_p4 (K : Value → World → Prop) (t0 : Value) (w : World) : Prop :=
  nw 52 (t0).cells (fun t1 w =>
  fd 1 t1 (fun t5 w =>
  ld1 t5 (fun t6 w =>
  boI .lss t6 (.int .i64 0) (fun t7 w =>
  gd t7 false (fd 2 t1) (fun t9 w =>
  gd t7 false (ld1 t9) (fun t10 w =>
  gd t7 false (boI .lss t10 (.int .i64 0)) (fun t11 w =>
  pk t7 (.bool true) t11 (fun t12 w =>
  gd t12 false (fd 3 t1) (fun t14 w =>
  gd t12 false (ld1 t14) (fun t15 w =>
  gd t12 false (boI .lss t15 (.int .i64 0)) (fun t16 w =>
  pk t12 (.bool true) t16 (fun t17 w =>
  gd t17 false (fd 4 t1) (fun t19 w =>
  gd t17 false (ld1 t19) (fun t20 w =>
  gd t17 false (boI .lss t20 (.int .i64 0)) (fun t21 w =>
  pk t17 (.bool true) t21 (fun t22 w =>
  gd t22 false (fd 5 t1) (fun t24 w =>
  gd t22 false (ld1 t24) (fun t25 w =>
  gd t22 false (boI .lss t25 (.int .i64 0)) (fun t26 w =>
  pk t22 (.bool true) t26 (fun t27 w =>
  gd t27 false (fd 6 t1) (fun t29 w =>
  gd t27 false (ld1 t29) (fun t30 w =>
  gd t27 false (boI .lss t30 (.int .i64 0)) (fun t31 w =>
  pk t27 (.bool true) t31 (fun t32 w =>
  ifb t32
  (K (.bool false) w)
  (fd 7 t1 (fun t33 w =>
  ld1 t33 (fun t34 w =>
  lnS t34 (fun t35 w =>
  boI .gtr t35 (.int .i64 8) (fun t36 w =>
  ifb t36
  (K (.bool false) w)
  (fd 7 t1 (fun t37 w =>
  ld1 t37 (fun t38 w =>
  lnS t38 (fun t39 w =>
  s183_p3 K t1 t38 t39 (.int .i64 0) w) w) w) w)) w) w) w) w)) w) w) w) w) w) w) w) w) w) w) w) w) w) w) w) w) w) w) w) w) w) w) w) w
def s183_p4_den (K : Value → World → Prop) : (Nat → Value) → World → Prop := denL Tryz.prog [(cd (Tryz.f183.body.getD .skip) [0]), (cd (Tryz.f183.body.getD .skip) [1, 0, 0]), (cd (Tryz.f183.body.getD .skip) [1, 0, 1]), (cd (Tryz.f183.body.getD .skip) [1, 1, 0, 0]), (cd (Tryz.f183.body.getD .skip) [1, 1, 0, 1]), (cd (Tryz.f183.body.getD .skip) [1, 1, 1, 0, 0])] (s183_p3_den K) (fun i => (fun _ _ => False)) (s183_R K)
theorem s183_p4_ok (K : Value → World → Prop) (s : Nat → Value) (w : World) (h : s183_p4 K (s 0) w) : Tr (s183_p4_den K s w) :=
  tr_simple (P := Tryz.prog) (codes := [(cd (Tryz.f183.body.getD .skip) [0]), (cd (Tryz.f183.body.getD .skip) [1, 0, 0]), (cd (Tryz.f183.body.getD .skip) [1, 0, 1]), (cd (Tryz.f183.body.getD .skip) [1, 1, 0, 0]), (cd (Tryz.f183.body.getD .skip) [1, 1, 0, 1]), (cd (Tryz.f183.body.getD .skip) [1, 1, 1, 0, 0])]) (N := (fun s w => s183_p3 K (s 1) (s 38) (s 39) (s 40) w)) (N' := (s183_p3_den K)) (X := (fun i => (fun _ _ => False))) (X' := (fun i => (fun _ _ => False))) (R := s183_R K) (s := s) (w := w) (p := s183_p4 K (s 0) w) (q := s183_p4_den K s w) (fun s w h => s183_p3_ok K s w @h) (fun i => tr_id) (by kernel_rfl) (by kernel_rfl) @h
/-- the call, from the text -/
theorem c183 (t0 : Value) {K : Value → World → Prop} {w : World} (h : s183_p4 K t0 w) : cl Tryz.prog 183 #[t0] K w :=
  calls_of_tr (c := (Tryz.f183.body.getD .skip)) (fn := Tryz.f183) (q := s183_p4_den K (st0 #[t0]) w) Tryz.func183 (by kernel_rfl) (by kernel_rfl) (Nat.le_of_ble_eq_true (by kernel_rfl)) (by kernel_rfl) (by kernel_rfl) (s183_p4_ok K (st0 #[t0]) w @h)

/-! ### function 184 : e2e.engine.IsQuery -/
def s184_R (K : Value → World → Prop) (s : Nat → Value) (w : World) : Prop := retv Tryz.prog s Tryz.f184.results.toList (fun vs => K (pack vs) w) w
def s184_p1 (K : Value → World → Prop) (t0 : Value) (w : World) : Prop :=
  boI .geq t0 (.int .u8 16) (fun t4 w =>
  gd t4 true (fun K w => K t0 w) (fun t6 w =>
  gd t4 true (boI .leq t6 (.int .u8 24)) (fun t7 w =>
  pk t4 t7 (.bool false) (fun t8 w =>
  K t8 w) w) w) w) w
def s184_p1_den (K : Value → World → Prop) : (Nat → Value) → World → Prop := denL Tryz.prog [(cd (Tryz.f184.body.getD .skip) [0]), (cd (Tryz.f184.body.getD .skip) [1, 0]), (cd (Tryz.f184.body.getD .skip) [1, 1])] (fun _ _ => False) (fun i => (fun _ _ => False)) (s184_R K)
theorem s184_p1_ok (K : Value → World → Prop) (s : Nat → Value) (w : World) (h : s184_p1 K (s 0) w) : Tr (s184_p1_den K s w) :=
  tr_simple (P := Tryz.prog) (codes := [(cd (Tryz.f184.body.getD .skip) [0]), (cd (Tryz.f184.body.getD .skip) [1, 0]), (cd (Tryz.f184.body.getD .skip) [1, 1])]) (N := (fun _ _ => False)) (N' := (fun _ _ => False)) (X := (fun i => (fun _ _ => False))) (X' := (fun i => (fun _ _ => False))) (R := s184_R K) (s := s) (w := w) (p := s184_p1 K (s 0) w) (q := s184_p1_den K s w) tr_id (fun i => tr_id) (by kernel_rfl) (by kernel_rfl) @h
/-- the call, from the text -/
theorem c184 (t0 : Value) {K : Value → World → Prop} {w : World} (h : s184_p1 K t0 w) : cl Tryz.prog 184 #[t0] K w :=
  calls_of_tr (c := (Tryz.f184.body.getD .skip)) (fn := Tryz.f184) (q := s184_p1_den K (st0 #[t0]) w) Tryz.func184 (by kernel_rfl) (by kernel_rfl) (Nat.le_of_ble_eq_true (by kernel_rfl)) (by kernel_rfl) (by kernel_rfl) (s184_p1_ok K (st0 #[t0]) w @h)

/-! ### function 30 : e2e.engine.IsChange -/
def s30_R (K : Value → World → Prop) (s : Nat → Value) (w : World) : Prop := retv Tryz.prog s Tryz.f30.results.toList (fun vs => K (pack vs) w) w
def s30_p1 (K : Value → World → Prop) (t0 : Value) (w : World) : Prop :=
  boI .geq t0 (.int .u8 1) (fun t4 w =>
  gd t4 true (fun K w => K t0 w) (fun t6 w =>
  gd t4 true (boI .leq t6 (.int .u8 9)) (fun t7 w =>
  pk t4 t7 (.bool false) (fun t8 w =>
  K t8 w) w) w) w) w
def s30_p1_den (K : Value → World → Prop) : (Nat → Value) → World → Prop := denL Tryz.prog [(cd (Tryz.f30.body.getD .skip) [0]), (cd (Tryz.f30.body.getD .skip) [1, 0]), (cd (Tryz.f30.body.getD .skip) [1, 1])] (fun _ _ => False) (fun i => (fun _ _ => False)) (s30_R K)
theorem s30_p1_ok (K : Value → World → Prop) (s : Nat → Value) (w : World) (h : s30_p1 K (s 0) w) : Tr (s30_p1_den K s w) :=
  tr_simple (P := Tryz.prog) (codes := [(cd (Tryz.f30.body.getD .skip) [0]), (cd (Tryz.f30.body.getD .skip) [1, 0]), (cd (Tryz.f30.body.getD .skip) [1, 1])]) (N := (fun _ _ => False)) (N' := (fun _ _ => False)) (X := (fun i => (fun _ _ => False))) (X' := (fun i => (fun _ _ => False))) (R := s30_R K) (s := s) (w := w) (p := s30_p1 K (s 0) w) (q := s30_p1_den K s w) tr_id (fun i => tr_id) (by kernel_rfl) (by kernel_rfl) @h
/-- the call, from the text -/
theorem c30 (t0 : Value) {K : Value → World → Prop} {w : World} (h : s30_p1 K t0 w) : cl Tryz.prog 30 #[t0] K w :=
  calls_of_tr (c := (Tryz.f30.body.getD .skip)) (fn := Tryz.f30) (q := s30_p1_den K (st0 #[t0]) w) Tryz.func30 (by kernel_rfl) (by kernel_rfl) (Nat.le_of_ble_eq_true (by kernel_rfl)) (by kernel_rfl) (by kernel_rfl) (s30_p1_ok K (st0 #[t0]) w @h)

/-! ### function 216 : e2e.engine.appendLegs -/
def s216_R (K : Value → World → Prop) (s : Nat → Value) (w : World) : Prop := retv Tryz.prog s Tryz.f216.results.toList (fun vs => K (pack vs) w) w
def s216_p1 (K : Value → World → Prop) (t0 : Value) (w : World) : Prop :=
  K t0 w
def s216_p1_den (K : Value → World → Prop) : (Nat → Value) → World → Prop := denL Tryz.prog [(cd (Tryz.f216.body.getD .skip) [1, 1, 1, 0]), (cd (Tryz.f216.body.getD .skip) [1, 1, 1, 1])] (fun _ _ => False) (fun i => (fun _ _ => False)) (s216_R K)
theorem s216_p1_ok (K : Value → World → Prop) (s : Nat → Value) (w : World) (h : s216_p1 K (s 0) w) : Tr (s216_p1_den K s w) :=
  tr_simple (P := Tryz.prog) (codes := [(cd (Tryz.f216.body.getD .skip) [1, 1, 1, 0]), (cd (Tryz.f216.body.getD .skip) [1, 1, 1, 1])]) (N := (fun _ _ => False)) (N' := (fun _ _ => False)) (X := (fun i => (fun _ _ => False))) (X' := (fun i => (fun _ _ => False))) (R := s216_R K) (s := s) (w := w) (p := s216_p1 K (s 0) w) (q := s216_p1_den K s w) tr_id (fun i => tr_id) (by kernel_rfl) (by kernel_rfl) @h
def s216_p2 (K : Value → World → Prop) (B1 : List Value → World → Prop) (t0 t11 t12 t13 : Value) (w : World) : Prop :=
  boI .lss t13 t12 (fun t14 w =>
  ifb t14
  (ixs 2 t11 t13 (fun t15 w =>
  ldn 2 t15 (fun t16 w =>
  nw 88 #[(.int .i64 0), (.int .i64 0)] (fun t6 w =>
  stn 2 t6 t16 (fun w =>
  fd 0 t6 (fun t18 w =>
  ld1 t18 (fun t19 w =>
  cl Tryz.prog 136 #[t0, t19] (fun t20 w =>
  fd 1 t6 (fun t22 w =>
  ld1 t22 (fun t23 w =>
  cl Tryz.prog 136 #[t20, t23] (fun t24 w =>
  boI .add t13 (.int .i64 1) (fun t25 w =>
  B1 [t24, t11, t12, t25] w) w) w) w) w) w) w) w) w) w) w) w)
  (s216_p1 K t0 w)) w
def s216_p2_den (K : Value → World → Prop) (M1 : (Nat → Value) → World → Prop) : (Nat → Value) → World → Prop := denL Tryz.prog [(cd (Tryz.f216.body.getD .skip) [1, 1, 0, 1, 0, 0, 0]), (cd (Tryz.f216.body.getD .skip) [1, 1, 0, 1, 0, 0, 1, 0]), (cd (Tryz.f216.body.getD .skip) [1, 1, 0, 1, 0, 0, 1, 1, 0]), (cd (Tryz.f216.body.getD .skip) [1, 1, 0, 1, 0, 0, 1, 1, 1])] M1 (fun i => (bif Nat.beq i 0 then (s216_p1_den K) else (fun _ _ => False))) (s216_R K)
theorem s216_p2_ok (K : Value → World → Prop) (B1 : List Value → World → Prop) (s : Nat → Value) (w : World) (h : s216_p2 K B1 (s 0) (s 11) (s 12) (s 13) w) : Tr (s216_p2_den K (fun s w => B1 [s 0, s 11, s 12, s 13] w) s w) :=
  tr_simple (P := Tryz.prog) (codes := [(cd (Tryz.f216.body.getD .skip) [1, 1, 0, 1, 0, 0, 0]), (cd (Tryz.f216.body.getD .skip) [1, 1, 0, 1, 0, 0, 1, 0]), (cd (Tryz.f216.body.getD .skip) [1, 1, 0, 1, 0, 0, 1, 1, 0]), (cd (Tryz.f216.body.getD .skip) [1, 1, 0, 1, 0, 0, 1, 1, 1])]) (N := (fun s w => B1 [s 0, s 11, s 12, s 13] w)) (N' := (fun s w => B1 [s 0, s 11, s 12, s 13] w)) (X := (fun i => (bif Nat.beq i 0 then (fun s w => s216_p1 K (s 0) w) else (fun _ _ => False)))) (X' := (fun i => (bif Nat.beq i 0 then (s216_p1_den K) else (fun _ _ => False)))) (R := s216_R K) (s := s) (w := w) (p := s216_p2 K B1 (s 0) (s 11) (s 12) (s 13) w) (q := s216_p2_den K (fun s w => B1 [s 0, s 11, s 12, s 13] w) s w) tr_id (fun i => (tr_bif (fun s w h => s216_p1_ok K s w @h) tr_id)) (by kernel_rfl) (by kernel_rfl) @h
def s216_p3_F (K : Value → World → Prop) (B1 : List Value → World → Prop) (l : List Value) (w : World) : Prop :=
  match l with
  | [t0, t11, t12, t13] => s216_p2 K B1 t0 t11 t12 t13 w
  | _ => False
theorem s216_p3_Fe {K : Value → World → Prop} {B1 : List Value → World → Prop} {t0 t11 t12 t13 : Value} {w : World} : s216_p3_F K B1 [t0, t11, t12, t13] w = s216_p2 K B1 t0 t11 t12 t13 w := by kernel_rfl
def s216_p3 (K : Value → World → Prop) (t0 t11 t12 t13 : Value) (w : World) : Prop :=
  LoopL (s216_p3_F K) [t0, t11, t12, t13] w
def s216_p3_den (K : Value → World → Prop) : (Nat → Value) → World → Prop := fun s w => LoopP (fun M1 s w => s216_p2_den K M1 s w) s w
theorem s216_p3_ok (K : Value → World → Prop) (s : Nat → Value) (w : World) (h : s216_p3 K (s 0) (s 11) (s 12) (s 13) w) : Tr (s216_p3_den K s w) :=
  tr_loop (G := fun N' s w => s216_p2_den K N' s w) (F := s216_p3_F K) (sel := fun s => [s 0, s 11, s 12, s 13]) (s := s) (w := w) (p := s216_p3 K (s 0) (s 11) (s 12) (s 13) w) (q := s216_p3_den K s w) (fun B s w h => s216_p2_ok K B s w @h) (by kernel_rfl) (by kernel_rfl) @h
def s216_p4 (K : Value → World → Prop) (t0 t1 : Value) (w : World) : Prop :=
  lnS t1 (fun t9 w =>
  cl Tryz.prog 136 #[t0, t9] (fun t10 w =>
  lnS t1 (fun t12 w =>
  s216_p3 K t10 t1 t12 (.int .i64 0) w) w) w) w
def s216_p4_den (K : Value → World → Prop) : (Nat → Value) → World → Prop := denL Tryz.prog [(cd (Tryz.f216.body.getD .skip) [0]), (cd (Tryz.f216.body.getD .skip) [1, 0]), (cd (Tryz.f216.body.getD .skip) [1, 1, 0, 0])] (s216_p3_den K) (fun i => (fun _ _ => False)) (s216_R K)
theorem s216_p4_ok (K : Value → World → Prop) (s : Nat → Value) (w : World) (h : s216_p4 K (s 0) (s 1) w) : Tr (s216_p4_den K s w) :=
  tr_simple (P := Tryz.prog) (codes := [(cd (Tryz.f216.body.getD .skip) [0]), (cd (Tryz.f216.body.getD .skip) [1, 0]), (cd (Tryz.f216.body.getD .skip) [1, 1, 0, 0])]) (N := (fun s w => s216_p3 K (s 0) (s 11) (s 12) (s 13) w)) (N' := (s216_p3_den K)) (X := (fun i => (fun _ _ => False))) (X' := (fun i => (fun _ _ => False))) (R := s216_R K) (s := s) (w := w) (p := s216_p4 K (s 0) (s 1) w) (q := s216_p4_den K s w) (fun s w h => s216_p3_ok K s w @h) (fun i => tr_id) (by kernel_rfl) (by kernel_rfl) @h
/-- the call, from the text -/
theorem c216 (t0 t1 : Value) {K : Value → World → Prop} {w : World} (h : s216_p4 K t0 t1 w) : cl Tryz.prog 216 #[t0, t1] K w :=
  calls_of_tr (c := (Tryz.f216.body.getD .skip)) (fn := Tryz.f216) (q := s216_p4_den K (st0 #[t0, t1]) w) Tryz.func216 (by kernel_rfl) (by kernel_rfl) (Nat.le_of_ble_eq_true (by kernel_rfl)) (by kernel_rfl) (by kernel_rfl) (s216_p4_ok K (st0 #[t0, t1]) w @h)

/-! ### function 187 : e2e.engine.appendRecord -/
def s187_R (K : Value → World → Prop) (s : Nat → Value) (w : World) : Prop := retv Tryz.prog s Tryz.f187.results.toList (fun vs => K (pack vs) w) w
def s187_p1 (K : Value → World → Prop) (t0 t1 : Value) (w : World) : Prop :=
  nw 85 (t1).cells (fun t3 w =>
  fd 0 t3 (fun t6 w =>
  ld1 t6 (fun t7 w =>
  cl Tryz.prog 136 #[t0, t7] (fun t8 w =>
  fd 1 t3 (fun t10 w =>
  ld1 t10 (fun t11 w =>
  cl Tryz.prog 136 #[t8, t11] (fun t12 w =>
  fd 2 t3 (fun t14 w =>
  ld1 t14 (fun t15 w =>
  cl Tryz.prog 136 #[t12, t15] (fun t16 w =>
  fd 3 t3 (fun t18 w =>
  ld1 t18 (fun t19 w =>
  cl Tryz.prog 136 #[t16, t19] (fun t20 w =>
  fd 4 t3 (fun t22 w =>
  ld1 t22 (fun t23 w =>
  cl Tryz.prog 136 #[t20, t23] (fun t24 w =>
  fd 5 t3 (fun t26 w =>
  ld1 t26 (fun t27 w =>
  cl Tryz.prog 136 #[t24, t27] (fun t28 w =>
  fd 6 t3 (fun t30 w =>
  ld1 t30 (fun t31 w =>
  cl Tryz.prog 216 #[t28, t31] (fun t32 w =>
  K t32 w) w) w) w) w) w) w) w) w) w) w) w) w) w) w) w) w) w) w) w) w) w) w
def s187_p1_den (K : Value → World → Prop) : (Nat → Value) → World → Prop := denL Tryz.prog [(cd (Tryz.f187.body.getD .skip) [0]), (cd (Tryz.f187.body.getD .skip) [1, 0]), (cd (Tryz.f187.body.getD .skip) [1, 1, 0]), (cd (Tryz.f187.body.getD .skip) [1, 1, 1, 0]), (cd (Tryz.f187.body.getD .skip) [1, 1, 1, 1, 0]), (cd (Tryz.f187.body.getD .skip) [1, 1, 1, 1, 1, 0]), (cd (Tryz.f187.body.getD .skip) [1, 1, 1, 1, 1, 1, 0]), (cd (Tryz.f187.body.getD .skip) [1, 1, 1, 1, 1, 1, 1, 0]), (cd (Tryz.f187.body.getD .skip) [1, 1, 1, 1, 1, 1, 1, 1])] (fun _ _ => False) (fun i => (fun _ _ => False)) (s187_R K)
theorem s187_p1_ok (K : Value → World → Prop) (s : Nat → Value) (w : World) (h : s187_p1 K (s 0) (s 1) w) : Tr (s187_p1_den K s w) :=
  tr_simple (P := Tryz.prog) (codes := [(cd (Tryz.f187.body.getD .skip) [0]), (cd (Tryz.f187.body.getD .skip) [1, 0]), (cd (Tryz.f187.body.getD .skip) [1, 1, 0]), (cd (Tryz.f187.body.getD .skip) [1, 1, 1, 0]), (cd (Tryz.f187.body.getD .skip) [1, 1, 1, 1, 0]), (cd (Tryz.f187.body.getD .skip) [1, 1, 1, 1, 1, 0]), (cd (Tryz.f187.body.getD .skip) [1, 1, 1, 1, 1, 1, 0]), (cd (Tryz.f187.body.getD .skip) [1, 1, 1, 1, 1, 1, 1, 0]), (cd (Tryz.f187.body.getD .skip) [1, 1, 1, 1, 1, 1, 1, 1])]) (N := (fun _ _ => False)) (N' := (fun _ _ => False)) (X := (fun i => (fun _ _ => False))) (X' := (fun i => (fun _ _ => False))) (R := s187_R K) (s := s) (w := w) (p := s187_p1 K (s 0) (s 1) w) (q := s187_p1_den K s w) tr_id (fun i => tr_id) (by kernel_rfl) (by kernel_rfl) @h
/-- the call, from the text -/
theorem c187 (t0 t1 : Value) {K : Value → World → Prop} {w : World} (h : s187_p1 K t0 t1 w) : cl Tryz.prog 187 #[t0, t1] K w :=
  calls_of_tr (c := (Tryz.f187.body.getD .skip)) (fn := Tryz.f187) (q := s187_p1_den K (st0 #[t0, t1]) w) Tryz.func187 (by kernel_rfl) (by kernel_rfl) (Nat.le_of_ble_eq_true (by kernel_rfl)) (by kernel_rfl) (by kernel_rfl) (s187_p1_ok K (st0 #[t0, t1]) w @h)

/-! ### function 142 : e2e.engine.AppendReply -/
def s142_R (K : Value → World → Prop) (s : Nat → Value) (w : World) : Prop := retv Tryz.prog s Tryz.f142.results.toList (fun vs => K (pack vs) w) w
def s142_p1 (K : Value → World → Prop) (t0 : Value) (w : World) : Prop :=
  K t0 w
def s142_p1_den (K : Value → World → Prop) : (Nat → Value) → World → Prop := denL Tryz.prog [(cd (Tryz.f142.body.getD .skip) [1, 1, 1, 1, 1, 0]), (cd (Tryz.f142.body.getD .skip) [1, 1, 1, 1, 1, 1])] (fun _ _ => False) (fun i => (fun _ _ => False)) (s142_R K)
theorem s142_p1_ok (K : Value → World → Prop) (s : Nat → Value) (w : World) (h : s142_p1 K (s 0) w) : Tr (s142_p1_den K s w) :=
  tr_simple (P := Tryz.prog) (codes := [(cd (Tryz.f142.body.getD .skip) [1, 1, 1, 1, 1, 0]), (cd (Tryz.f142.body.getD .skip) [1, 1, 1, 1, 1, 1])]) (N := (fun _ _ => False)) (N' := (fun _ _ => False)) (X := (fun i => (fun _ _ => False))) (X' := (fun i => (fun _ _ => False))) (R := s142_R K) (s := s) (w := w) (p := s142_p1 K (s 0) w) (q := s142_p1_den K s w) tr_id (fun i => tr_id) (by kernel_rfl) (by kernel_rfl) @h
def s142_p2 (K : Value → World → Prop) (t0 t3 : Value) (w : World) : Prop :=
  fd 2 t3 (fun t36 w =>
  ld1 t36 (fun t37 w =>
  cl Tryz.prog 136 #[t0, t37] (fun t38 w =>
  fd 3 t3 (fun t40 w =>
  ld1 t40 (fun t41 w =>
  cl Tryz.prog 136 #[t38, t41] (fun t42 w =>
  s142_p1 K t42 w) w) w) w) w) w) w
def s142_p2_den (K : Value → World → Prop) : (Nat → Value) → World → Prop := denL Tryz.prog [(cd (Tryz.f142.body.getD .skip) [1, 1, 1, 1, 0, 1, 0, 1, 0, 0]), (cd (Tryz.f142.body.getD .skip) [1, 1, 1, 1, 0, 1, 0, 1, 0, 1])] (s142_p1_den K) (fun i => (bif Nat.beq i 0 then (s142_p1_den K) else (fun _ _ => False))) (s142_R K)
theorem s142_p2_ok (K : Value → World → Prop) (s : Nat → Value) (w : World) (h : s142_p2 K (s 0) (s 3) w) : Tr (s142_p2_den K s w) :=
  tr_simple (P := Tryz.prog) (codes := [(cd (Tryz.f142.body.getD .skip) [1, 1, 1, 1, 0, 1, 0, 1, 0, 0]), (cd (Tryz.f142.body.getD .skip) [1, 1, 1, 1, 0, 1, 0, 1, 0, 1])]) (N := (fun s w => s142_p1 K (s 0) w)) (N' := (s142_p1_den K)) (X := (fun i => (bif Nat.beq i 0 then (fun s w => s142_p1 K (s 0) w) else (fun _ _ => False)))) (X' := (fun i => (bif Nat.beq i 0 then (s142_p1_den K) else (fun _ _ => False)))) (R := s142_R K) (s := s) (w := w) (p := s142_p2 K (s 0) (s 3) w) (q := s142_p2_den K s w) (fun s w h => s142_p1_ok K s w @h) (fun i => (tr_bif (fun s w h => s142_p1_ok K s w @h) tr_id)) (by kernel_rfl) (by kernel_rfl) @h
def s142_p3 (K : Value → World → Prop) (t0 t3 : Value) (w : World) : Prop :=
  fd 2 t3 (fun t46 w =>
  ld1 t46 (fun t47 w =>
  cl Tryz.prog 136 #[t0, t47] (fun t48 w =>
  fd 4 t3 (fun t50 w =>
  ld1 t50 (fun t51 w =>
  cl Tryz.prog 136 #[t48, t51] (fun t52 w =>
  s142_p1 K t52 w) w) w) w) w) w) w
def s142_p3_den (K : Value → World → Prop) : (Nat → Value) → World → Prop := denL Tryz.prog [(cd (Tryz.f142.body.getD .skip) [1, 1, 1, 1, 0, 1, 0, 1, 1, 1, 0, 0]), (cd (Tryz.f142.body.getD .skip) [1, 1, 1, 1, 0, 1, 0, 1, 1, 1, 0, 1])] (s142_p1_den K) (fun i => (bif Nat.beq i 0 then (s142_p1_den K) else (fun _ _ => False))) (s142_R K)
theorem s142_p3_ok (K : Value → World → Prop) (s : Nat → Value) (w : World) (h : s142_p3 K (s 0) (s 3) w) : Tr (s142_p3_den K s w) :=
  tr_simple (P := Tryz.prog) (codes := [(cd (Tryz.f142.body.getD .skip) [1, 1, 1, 1, 0, 1, 0, 1, 1, 1, 0, 0]), (cd (Tryz.f142.body.getD .skip) [1, 1, 1, 1, 0, 1, 0, 1, 1, 1, 0, 1])]) (N := (fun s w => s142_p1 K (s 0) w)) (N' := (s142_p1_den K)) (X := (fun i => (bif Nat.beq i 0 then (fun s w => s142_p1 K (s 0) w) else (fun _ _ => False)))) (X' := (fun i => (bif Nat.beq i 0 then (s142_p1_den K) else (fun _ _ => False)))) (R := s142_R K) (s := s) (w := w) (p := s142_p3 K (s 0) (s 3) w) (q := s142_p3_den K s w) (fun s w h => s142_p1_ok K s w @h) (fun i => (tr_bif (fun s w h => s142_p1_ok K s w @h) tr_id)) (by kernel_rfl) (by kernel_rfl) @h
def s142_p4 (K : Value → World → Prop) (t0 t3 : Value) (w : World) : Prop :=
  fd 5 t3 (fun t61 w =>
  ld1 t61 (fun t62 w =>
  cl Tryz.prog 136 #[t0, t62] (fun t63 w =>
  s142_p1 K t63 w) w) w) w
def s142_p4_den (K : Value → World → Prop) : (Nat → Value) → World → Prop := denL Tryz.prog [(cd (Tryz.f142.body.getD .skip) [1, 1, 1, 1, 0, 1, 0, 1, 1, 1, 1, 1, 0])] (s142_p1_den K) (fun i => (bif Nat.beq i 0 then (s142_p1_den K) else (fun _ _ => False))) (s142_R K)
theorem s142_p4_ok (K : Value → World → Prop) (s : Nat → Value) (w : World) (h : s142_p4 K (s 0) (s 3) w) : Tr (s142_p4_den K s w) :=
  tr_simple (P := Tryz.prog) (codes := [(cd (Tryz.f142.body.getD .skip) [1, 1, 1, 1, 0, 1, 0, 1, 1, 1, 1, 1, 0])]) (N := (fun s w => s142_p1 K (s 0) w)) (N' := (s142_p1_den K)) (X := (fun i => (bif Nat.beq i 0 then (fun s w => s142_p1 K (s 0) w) else (fun _ _ => False)))) (X' := (fun i => (bif Nat.beq i 0 then (s142_p1_den K) else (fun _ _ => False)))) (R := s142_R K) (s := s) (w := w) (p := s142_p4 K (s 0) (s 3) w) (q := s142_p4_den K s w) (fun s w h => s142_p1_ok K s w @h) (fun i => (tr_bif (fun s w h => s142_p1_ok K s w @h) tr_id)) (by kernel_rfl) (by kernel_rfl) @h
def s142_p5 (K : Value → World → Prop) (t0 t3 : Value) (w : World) : Prop :=
  fd 8 t3 (fun t92 w =>
  ld1 t92 (fun t93 w =>
  cl Tryz.prog 136 #[t0, t93] (fun t94 w =>
  fd 9 t3 (fun t96 w =>
  ld1 t96 (fun t97 w =>
  cl Tryz.prog 136 #[t94, t97] (fun t98 w =>
  fd 10 t3 (fun t100 w =>
  ld1 t100 (fun t101 w =>
  cl Tryz.prog 136 #[t98, t101] (fun t102 w =>
  s142_p1 K t102 w) w) w) w) w) w) w) w) w) w
def s142_p5_den (K : Value → World → Prop) : (Nat → Value) → World → Prop := denL Tryz.prog [(cd (Tryz.f142.body.getD .skip) [1, 1, 1, 1, 0, 1, 0, 1, 1, 1, 1, 1, 1, 1, 0, 1, 1, 1, 0]), (cd (Tryz.f142.body.getD .skip) [1, 1, 1, 1, 0, 1, 0, 1, 1, 1, 1, 1, 1, 1, 0, 1, 1, 1, 1, 0]), (cd (Tryz.f142.body.getD .skip) [1, 1, 1, 1, 0, 1, 0, 1, 1, 1, 1, 1, 1, 1, 0, 1, 1, 1, 1, 1])] (s142_p1_den K) (fun i => (bif Nat.beq i 0 then (s142_p1_den K) else (fun _ _ => False))) (s142_R K)
theorem s142_p5_ok (K : Value → World → Prop) (s : Nat → Value) (w : World) (h : s142_p5 K (s 0) (s 3) w) : Tr (s142_p5_den K s w) :=
  tr_simple (P := Tryz.prog) (codes := [(cd (Tryz.f142.body.getD .skip) [1, 1, 1, 1, 0, 1, 0, 1, 1, 1, 1, 1, 1, 1, 0, 1, 1, 1, 0]), (cd (Tryz.f142.body.getD .skip) [1, 1, 1, 1, 0, 1, 0, 1, 1, 1, 1, 1, 1, 1, 0, 1, 1, 1, 1, 0]), (cd (Tryz.f142.body.getD .skip) [1, 1, 1, 1, 0, 1, 0, 1, 1, 1, 1, 1, 1, 1, 0, 1, 1, 1, 1, 1])]) (N := (fun s w => s142_p1 K (s 0) w)) (N' := (s142_p1_den K)) (X := (fun i => (bif Nat.beq i 0 then (fun s w => s142_p1 K (s 0) w) else (fun _ _ => False)))) (X' := (fun i => (bif Nat.beq i 0 then (s142_p1_den K) else (fun _ _ => False)))) (R := s142_R K) (s := s) (w := w) (p := s142_p5 K (s 0) (s 3) w) (q := s142_p5_den K s w) (fun s w h => s142_p1_ok K s w @h) (fun i => (tr_bif (fun s w h => s142_p1_ok K s w @h) tr_id)) (by kernel_rfl) (by kernel_rfl) @h
def s142_p6 (K : Value → World → Prop) (B1 : List Value → World → Prop) (t0 t3 t76 t77 t78 : Value) (w : World) : Prop :=
  boI .lss t78 t77 (fun t79 w =>
  ifb t79
  (ixs 2 t76 t78 (fun t80 w =>
  ldn 2 t80 (fun t81 w =>
  nw 90 #[(.int .i64 0), (.int .i64 0)] (fun t6 w =>
  stn 2 t6 t81 (fun w =>
  fd 0 t6 (fun t83 w =>
  ld1 t83 (fun t84 w =>
  cl Tryz.prog 136 #[t0, t84] (fun t85 w =>
  fd 1 t6 (fun t87 w =>
  ld1 t87 (fun t88 w =>
  cl Tryz.prog 136 #[t85, t88] (fun t89 w =>
  boI .add t78 (.int .i64 1) (fun t90 w =>
  B1 [t89, t3, t76, t77, t90] w) w) w) w) w) w) w) w) w) w) w) w)
  (s142_p5 K t0 t3 w)) w
def s142_p6_den (K : Value → World → Prop) (M1 : (Nat → Value) → World → Prop) : (Nat → Value) → World → Prop := denL Tryz.prog [(cd (Tryz.f142.body.getD .skip) [1, 1, 1, 1, 0, 1, 0, 1, 1, 1, 1, 1, 1, 1, 0, 1, 1, 0, 1, 0, 0, 0]), (cd (Tryz.f142.body.getD .skip) [1, 1, 1, 1, 0, 1, 0, 1, 1, 1, 1, 1, 1, 1, 0, 1, 1, 0, 1, 0, 0, 1, 0]), (cd (Tryz.f142.body.getD .skip) [1, 1, 1, 1, 0, 1, 0, 1, 1, 1, 1, 1, 1, 1, 0, 1, 1, 0, 1, 0, 0, 1, 1, 0]), (cd (Tryz.f142.body.getD .skip) [1, 1, 1, 1, 0, 1, 0, 1, 1, 1, 1, 1, 1, 1, 0, 1, 1, 0, 1, 0, 0, 1, 1, 1])] M1 (fun i => (bif Nat.beq i 1 then (s142_p5_den K) else (bif Nat.beq i 0 then (s142_p1_den K) else (fun _ _ => False)))) (s142_R K)
theorem s142_p6_ok (K : Value → World → Prop) (B1 : List Value → World → Prop) (s : Nat → Value) (w : World) (h : s142_p6 K B1 (s 0) (s 3) (s 76) (s 77) (s 78) w) : Tr (s142_p6_den K (fun s w => B1 [s 0, s 3, s 76, s 77, s 78] w) s w) :=
  tr_simple (P := Tryz.prog) (codes := [(cd (Tryz.f142.body.getD .skip) [1, 1, 1, 1, 0, 1, 0, 1, 1, 1, 1, 1, 1, 1, 0, 1, 1, 0, 1, 0, 0, 0]), (cd (Tryz.f142.body.getD .skip) [1, 1, 1, 1, 0, 1, 0, 1, 1, 1, 1, 1, 1, 1, 0, 1, 1, 0, 1, 0, 0, 1, 0]), (cd (Tryz.f142.body.getD .skip) [1, 1, 1, 1, 0, 1, 0, 1, 1, 1, 1, 1, 1, 1, 0, 1, 1, 0, 1, 0, 0, 1, 1, 0]), (cd (Tryz.f142.body.getD .skip) [1, 1, 1, 1, 0, 1, 0, 1, 1, 1, 1, 1, 1, 1, 0, 1, 1, 0, 1, 0, 0, 1, 1, 1])]) (N := (fun s w => B1 [s 0, s 3, s 76, s 77, s 78] w)) (N' := (fun s w => B1 [s 0, s 3, s 76, s 77, s 78] w)) (X := (fun i => (bif Nat.beq i 1 then (fun s w => s142_p5 K (s 0) (s 3) w) else (bif Nat.beq i 0 then (fun s w => s142_p1 K (s 0) w) else (fun _ _ => False))))) (X' := (fun i => (bif Nat.beq i 1 then (s142_p5_den K) else (bif Nat.beq i 0 then (s142_p1_den K) else (fun _ _ => False))))) (R := s142_R K) (s := s) (w := w) (p := s142_p6 K B1 (s 0) (s 3) (s 76) (s 77) (s 78) w) (q := s142_p6_den K (fun s w => B1 [s 0, s 3, s 76, s 77, s 78] w) s w) tr_id (fun i => (tr_bif (fun s w h => s142_p5_ok K s w @h) (tr_bif (fun s w h => s142_p1_ok K s w @h) tr_id))) (by kernel_rfl) (by kernel_rfl) @h
def s142_p7_F (K : Value → World → Prop) (B1 : List Value → World → Prop) (l : List Value) (w : World) : Prop :=
  match l with
  | [t0, t3, t76, t77, t78] => s142_p6 K B1 t0 t3 t76 t77 t78 w
  | _ => False
theorem s142_p7_Fe {K : Value → World → Prop} {B1 : List Value → World → Prop} {t0 t3 t76 t77 t78 : Value} {w : World} : s142_p7_F K B1 [t0, t3, t76, t77, t78] w = s142_p6 K B1 t0 t3 t76 t77 t78 w := by kernel_rfl
def s142_p7 (K : Value → World → Prop) (t0 t3 t76 t77 t78 : Value) (w : World) : Prop :=
  LoopL (s142_p7_F K) [t0, t3, t76, t77, t78] w
def s142_p7_den (K : Value → World → Prop) : (Nat → Value) → World → Prop := fun s w => LoopP (fun M1 s w => s142_p6_den K M1 s w) s w
theorem s142_p7_ok (K : Value → World → Prop) (s : Nat → Value) (w : World) (h : s142_p7 K (s 0) (s 3) (s 76) (s 77) (s 78) w) : Tr (s142_p7_den K s w) :=
  tr_loop (G := fun N' s w => s142_p6_den K N' s w) (F := s142_p7_F K) (sel := fun s => [s 0, s 3, s 76, s 77, s 78]) (s := s) (w := w) (p := s142_p7 K (s 0) (s 3) (s 76) (s 77) (s 78) w) (q := s142_p7_den K s w) (fun B s w h => s142_p6_ok K B s w @h) (by kernel_rfl) (by kernel_rfl) @h
def s142_p8 (K : Value → World → Prop) (t0 t3 : Value) (w : World) : Prop :=
  fd 6 t3 (fun t67 w =>
  ld1 t67 (fun t68 w =>
  cl Tryz.prog 136 #[t0, t68] (fun t69 w =>
  fd 7 t3 (fun t71 w =>
  ld1 t71 (fun t72 w =>
  lnS t72 (fun t73 w =>
  cl Tryz.prog 136 #[t69, t73] (fun t74 w =>
  fd 7 t3 (fun t75 w =>
  ld1 t75 (fun t76 w =>
  lnS t76 (fun t77 w =>
  s142_p7 K t74 t3 t76 t77 (.int .i64 0) w) w) w) w) w) w) w) w) w) w) w
def s142_p8_den (K : Value → World → Prop) : (Nat → Value) → World → Prop := denL Tryz.prog [(cd (Tryz.f142.body.getD .skip) [1, 1, 1, 1, 0, 1, 0, 1, 1, 1, 1, 1, 1, 1, 0, 0]), (cd (Tryz.f142.body.getD .skip) [1, 1, 1, 1, 0, 1, 0, 1, 1, 1, 1, 1, 1, 1, 0, 1, 0]), (cd (Tryz.f142.body.getD .skip) [1, 1, 1, 1, 0, 1, 0, 1, 1, 1, 1, 1, 1, 1, 0, 1, 1, 0, 0])] (s142_p7_den K) (fun i => (bif Nat.beq i 0 then (s142_p1_den K) else (fun _ _ => False))) (s142_R K)
theorem s142_p8_ok (K : Value → World → Prop) (s : Nat → Value) (w : World) (h : s142_p8 K (s 0) (s 3) w) : Tr (s142_p8_den K s w) :=
  tr_simple (P := Tryz.prog) (codes := [(cd (Tryz.f142.body.getD .skip) [1, 1, 1, 1, 0, 1, 0, 1, 1, 1, 1, 1, 1, 1, 0, 0]), (cd (Tryz.f142.body.getD .skip) [1, 1, 1, 1, 0, 1, 0, 1, 1, 1, 1, 1, 1, 1, 0, 1, 0]), (cd (Tryz.f142.body.getD .skip) [1, 1, 1, 1, 0, 1, 0, 1, 1, 1, 1, 1, 1, 1, 0, 1, 1, 0, 0])]) (N := (fun s w => s142_p7 K (s 0) (s 3) (s 76) (s 77) (s 78) w)) (N' := (s142_p7_den K)) (X := (fun i => (bif Nat.beq i 0 then (fun s w => s142_p1 K (s 0) w) else (fun _ _ => False)))) (X' := (fun i => (bif Nat.beq i 0 then (s142_p1_den K) else (fun _ _ => False)))) (R := s142_R K) (s := s) (w := w) (p := s142_p8 K (s 0) (s 3) w) (q := s142_p8_den K s w) (fun s w h => s142_p7_ok K s w @h) (fun i => (tr_bif (fun s w h => s142_p1_ok K s w @h) tr_id)) (by kernel_rfl) (by kernel_rfl) @h
def s142_p9 (K : Value → World → Prop) (t0 t3 : Value) (w : World) : Prop :=
  fd 11 t3 (fun t106 w =>
  ld1 t106 (fun t107 w =>
  ixs 7 t107 (.int .i64 0) (fun t108 w =>
  ldn 7 t108 (fun t109 w =>
  cl Tryz.prog 187 #[t0, t109] (fun t110 w =>
  s142_p1 K t110 w) w) w) w) w) w
def s142_p9_den (K : Value → World → Prop) : (Nat → Value) → World → Prop := denL Tryz.prog [(cd (Tryz.f142.body.getD .skip) [1, 1, 1, 1, 0, 1, 0, 1, 1, 1, 1, 1, 1, 1, 1, 1, 0])] (s142_p1_den K) (fun i => (bif Nat.beq i 0 then (s142_p1_den K) else (fun _ _ => False))) (s142_R K)
theorem s142_p9_ok (K : Value → World → Prop) (s : Nat → Value) (w : World) (h : s142_p9 K (s 0) (s 3) w) : Tr (s142_p9_den K s w) :=
  tr_simple (P := Tryz.prog) (codes := [(cd (Tryz.f142.body.getD .skip) [1, 1, 1, 1, 0, 1, 0, 1, 1, 1, 1, 1, 1, 1, 1, 1, 0])]) (N := (fun s w => s142_p1 K (s 0) w)) (N' := (s142_p1_den K)) (X := (fun i => (bif Nat.beq i 0 then (fun s w => s142_p1 K (s 0) w) else (fun _ _ => False)))) (X' := (fun i => (bif Nat.beq i 0 then (s142_p1_den K) else (fun _ _ => False)))) (R := s142_R K) (s := s) (w := w) (p := s142_p9 K (s 0) (s 3) w) (q := s142_p9_den K s w) (fun s w h => s142_p1_ok K s w @h) (fun i => (tr_bif (fun s w h => s142_p1_ok K s w @h) tr_id)) (by kernel_rfl) (by kernel_rfl) @h
def s142_p10 (K : Value → World → Prop) (B1 : List Value → World → Prop) (t0 t123 t124 t125 : Value) (w : World) : Prop :=
  boI .lss t125 t124 (fun t126 w =>
  ifb t126
  (ixs 7 t123 t125 (fun t127 w =>
  ldn 7 t127 (fun t128 w =>
  nw 85 #[(.int .i64 0), (.int .i64 0), (.int .i64 0), (.int .i64 0), (.int .i64 0), (.int .i64 0), (.slice none 0 0)] (fun t8 w =>
  stn 7 t8 t128 (fun w =>
  ldn 7 t8 (fun t130 w =>
  cl Tryz.prog 187 #[t0, t130] (fun t131 w =>
  boI .add t125 (.int .i64 1) (fun t132 w =>
  B1 [t131, t123, t124, t132] w) w) w) w) w) w) w) w)
  (s142_p1 K t0 w)) w
def s142_p10_den (K : Value → World → Prop) (M1 : (Nat → Value) → World → Prop) : (Nat → Value) → World → Prop := denL Tryz.prog [(cd (Tryz.f142.body.getD .skip) [1, 1, 1, 1, 0, 1, 0, 1, 1, 1, 1, 1, 1, 1, 1, 1, 1, 1, 0, 1, 1, 1, 0, 0, 0]), (cd (Tryz.f142.body.getD .skip) [1, 1, 1, 1, 0, 1, 0, 1, 1, 1, 1, 1, 1, 1, 1, 1, 1, 1, 0, 1, 1, 1, 0, 0, 1, 0]), (cd (Tryz.f142.body.getD .skip) [1, 1, 1, 1, 0, 1, 0, 1, 1, 1, 1, 1, 1, 1, 1, 1, 1, 1, 0, 1, 1, 1, 0, 0, 1, 1, 0]), (cd (Tryz.f142.body.getD .skip) [1, 1, 1, 1, 0, 1, 0, 1, 1, 1, 1, 1, 1, 1, 1, 1, 1, 1, 0, 1, 1, 1, 0, 0, 1, 1, 1])] M1 (fun i => (bif Nat.beq i 3 then (s142_p1_den K) else (bif Nat.beq i 0 then (s142_p1_den K) else (fun _ _ => False)))) (s142_R K)
theorem s142_p10_ok (K : Value → World → Prop) (B1 : List Value → World → Prop) (s : Nat → Value) (w : World) (h : s142_p10 K B1 (s 0) (s 123) (s 124) (s 125) w) : Tr (s142_p10_den K (fun s w => B1 [s 0, s 123, s 124, s 125] w) s w) :=
  tr_simple (P := Tryz.prog) (codes := [(cd (Tryz.f142.body.getD .skip) [1, 1, 1, 1, 0, 1, 0, 1, 1, 1, 1, 1, 1, 1, 1, 1, 1, 1, 0, 1, 1, 1, 0, 0, 0]), (cd (Tryz.f142.body.getD .skip) [1, 1, 1, 1, 0, 1, 0, 1, 1, 1, 1, 1, 1, 1, 1, 1, 1, 1, 0, 1, 1, 1, 0, 0, 1, 0]), (cd (Tryz.f142.body.getD .skip) [1, 1, 1, 1, 0, 1, 0, 1, 1, 1, 1, 1, 1, 1, 1, 1, 1, 1, 0, 1, 1, 1, 0, 0, 1, 1, 0]), (cd (Tryz.f142.body.getD .skip) [1, 1, 1, 1, 0, 1, 0, 1, 1, 1, 1, 1, 1, 1, 1, 1, 1, 1, 0, 1, 1, 1, 0, 0, 1, 1, 1])]) (N := (fun s w => B1 [s 0, s 123, s 124, s 125] w)) (N' := (fun s w => B1 [s 0, s 123, s 124, s 125] w)) (X := (fun i => (bif Nat.beq i 3 then (fun s w => s142_p1 K (s 0) w) else (bif Nat.beq i 0 then (fun s w => s142_p1 K (s 0) w) else (fun _ _ => False))))) (X' := (fun i => (bif Nat.beq i 3 then (s142_p1_den K) else (bif Nat.beq i 0 then (s142_p1_den K) else (fun _ _ => False))))) (R := s142_R K) (s := s) (w := w) (p := s142_p10 K B1 (s 0) (s 123) (s 124) (s 125) w) (q := s142_p10_den K (fun s w => B1 [s 0, s 123, s 124, s 125] w) s w) tr_id (fun i => (tr_bif (fun s w h => s142_p1_ok K s w @h) (tr_bif (fun s w h => s142_p1_ok K s w @h) tr_id))) (by kernel_rfl) (by kernel_rfl) @h
def s142_p11_F (K : Value → World → Prop) (B1 : List Value → World → Prop) (l : List Value) (w : World) : Prop :=
  match l with
  | [t0, t123, t124, t125] => s142_p10 K B1 t0 t123 t124 t125 w
  | _ => False
theorem s142_p11_Fe {K : Value → World → Prop} {B1 : List Value → World → Prop} {t0 t123 t124 t125 : Value} {w : World} : s142_p11_F K B1 [t0, t123, t124, t125] w = s142_p10 K B1 t0 t123 t124 t125 w := by kernel_rfl
def s142_p11 (K : Value → World → Prop) (t0 t123 t124 t125 : Value) (w : World) : Prop :=
  LoopL (s142_p11_F K) [t0, t123, t124, t125] w
def s142_p11_den (K : Value → World → Prop) : (Nat → Value) → World → Prop := fun s w => LoopP (fun M1 s w => s142_p10_den K M1 s w) s w
theorem s142_p11_ok (K : Value → World → Prop) (s : Nat → Value) (w : World) (h : s142_p11 K (s 0) (s 123) (s 124) (s 125) w) : Tr (s142_p11_den K s w) :=
  tr_loop (G := fun N' s w => s142_p10_den K N' s w) (F := s142_p11_F K) (sel := fun s => [s 0, s 123, s 124, s 125]) (s := s) (w := w) (p := s142_p11 K (s 0) (s 123) (s 124) (s 125) w) (q := s142_p11_den K s w) (fun B s w h => s142_p10_ok K B s w @h) (by kernel_rfl) (by kernel_rfl) @h
def s142_p12 (K : Value → World → Prop) (t0 t3 : Value) (w : World) : Prop :=
  fd 12 t3 (fun t114 w =>
  ld1 t114 (fun t115 w =>
  cl Tryz.prog 136 #[t0, t115] (fun t116 w =>
  fd 11 t3 (fun t118 w =>
  ld1 t118 (fun t119 w =>
  lnS t119 (fun t120 w =>
  cl Tryz.prog 136 #[t116, t120] (fun t121 w =>
  fd 11 t3 (fun t122 w =>
  ld1 t122 (fun t123 w =>
  lnS t123 (fun t124 w =>
  s142_p11 K t121 t123 t124 (.int .i64 0) w) w) w) w) w) w) w) w) w) w) w
def s142_p12_den (K : Value → World → Prop) : (Nat → Value) → World → Prop := denL Tryz.prog [(cd (Tryz.f142.body.getD .skip) [1, 1, 1, 1, 0, 1, 0, 1, 1, 1, 1, 1, 1, 1, 1, 1, 1, 1, 0, 0]), (cd (Tryz.f142.body.getD .skip) [1, 1, 1, 1, 0, 1, 0, 1, 1, 1, 1, 1, 1, 1, 1, 1, 1, 1, 0, 1, 0]), (cd (Tryz.f142.body.getD .skip) [1, 1, 1, 1, 0, 1, 0, 1, 1, 1, 1, 1, 1, 1, 1, 1, 1, 1, 0, 1, 1, 0])] (s142_p11_den K) (fun i => (bif Nat.beq i 0 then (s142_p1_den K) else (fun _ _ => False))) (s142_R K)
theorem s142_p12_ok (K : Value → World → Prop) (s : Nat → Value) (w : World) (h : s142_p12 K (s 0) (s 3) w) : Tr (s142_p12_den K s w) :=
  tr_simple (P := Tryz.prog) (codes := [(cd (Tryz.f142.body.getD .skip) [1, 1, 1, 1, 0, 1, 0, 1, 1, 1, 1, 1, 1, 1, 1, 1, 1, 1, 0, 0]), (cd (Tryz.f142.body.getD .skip) [1, 1, 1, 1, 0, 1, 0, 1, 1, 1, 1, 1, 1, 1, 1, 1, 1, 1, 0, 1, 0]), (cd (Tryz.f142.body.getD .skip) [1, 1, 1, 1, 0, 1, 0, 1, 1, 1, 1, 1, 1, 1, 1, 1, 1, 1, 0, 1, 1, 0])]) (N := (fun s w => s142_p11 K (s 0) (s 123) (s 124) (s 125) w)) (N' := (s142_p11_den K)) (X := (fun i => (bif Nat.beq i 0 then (fun s w => s142_p1 K (s 0) w) else (fun _ _ => False)))) (X' := (fun i => (bif Nat.beq i 0 then (s142_p1_den K) else (fun _ _ => False)))) (R := s142_R K) (s := s) (w := w) (p := s142_p12 K (s 0) (s 3) w) (q := s142_p12_den K s w) (fun s w h => s142_p11_ok K s w @h) (fun i => (tr_bif (fun s w h => s142_p1_ok K s w @h) tr_id)) (by kernel_rfl) (by kernel_rfl) @h
def s142_p13 (K : Value → World → Prop) (t0 t3 : Value) (w : World) : Prop :=
  fd 17 t3 (fun t149 w =>
  ld1 t149 (fun t150 w =>
  cl Tryz.prog 136 #[t0, t150] (fun t151 w =>
  s142_p1 K t151 w) w) w) w
def s142_p13_den (K : Value → World → Prop) : (Nat → Value) → World → Prop := denL Tryz.prog [(cd (Tryz.f142.body.getD .skip) [1, 1, 1, 1, 0, 1, 0, 1, 1, 1, 1, 1, 1, 1, 1, 1, 1, 1, 1, 1, 0, 1, 1])] (s142_p1_den K) (fun i => (bif Nat.beq i 0 then (s142_p1_den K) else (fun _ _ => False))) (s142_R K)
theorem s142_p13_ok (K : Value → World → Prop) (s : Nat → Value) (w : World) (h : s142_p13 K (s 0) (s 3) w) : Tr (s142_p13_den K s w) :=
  tr_simple (P := Tryz.prog) (codes := [(cd (Tryz.f142.body.getD .skip) [1, 1, 1, 1, 0, 1, 0, 1, 1, 1, 1, 1, 1, 1, 1, 1, 1, 1, 1, 1, 0, 1, 1])]) (N := (fun s w => s142_p1 K (s 0) w)) (N' := (s142_p1_den K)) (X := (fun i => (bif Nat.beq i 0 then (fun s w => s142_p1 K (s 0) w) else (fun _ _ => False)))) (X' := (fun i => (bif Nat.beq i 0 then (s142_p1_den K) else (fun _ _ => False)))) (R := s142_R K) (s := s) (w := w) (p := s142_p13 K (s 0) (s 3) w) (q := s142_p13_den K s w) (fun s w h => s142_p1_ok K s w @h) (fun i => (tr_bif (fun s w h => s142_p1_ok K s w @h) tr_id)) (by kernel_rfl) (by kernel_rfl) @h
def s142_p14 (K : Value → World → Prop) (B1 : List Value → World → Prop) (t0 t3 t140 t141 : Value) (w : World) : Prop :=
  boI .lss t141 (.int .i64 3) (fun t142 w =>
  ifb t142
  (iv Tryz.prog 91 t140 t141 (fun t143 w =>
  cl Tryz.prog 136 #[t0, t143] (fun t146 w =>
  boI .add t141 (.int .i64 1) (fun t147 w =>
  B1 [t146, t3, t140, t147] w) w) w) w)
  (s142_p13 K t0 t3 w)) w
def s142_p14_den (K : Value → World → Prop) (M1 : (Nat → Value) → World → Prop) : (Nat → Value) → World → Prop := denL Tryz.prog [(cd (Tryz.f142.body.getD .skip) [1, 1, 1, 1, 0, 1, 0, 1, 1, 1, 1, 1, 1, 1, 1, 1, 1, 1, 1, 1, 0, 1, 0, 1, 0, 0, 0]), (cd (Tryz.f142.body.getD .skip) [1, 1, 1, 1, 0, 1, 0, 1, 1, 1, 1, 1, 1, 1, 1, 1, 1, 1, 1, 1, 0, 1, 0, 1, 0, 0, 1, 0]), (cd (Tryz.f142.body.getD .skip) [1, 1, 1, 1, 0, 1, 0, 1, 1, 1, 1, 1, 1, 1, 1, 1, 1, 1, 1, 1, 0, 1, 0, 1, 0, 0, 1, 1, 0]), (cd (Tryz.f142.body.getD .skip) [1, 1, 1, 1, 0, 1, 0, 1, 1, 1, 1, 1, 1, 1, 1, 1, 1, 1, 1, 1, 0, 1, 0, 1, 0, 0, 1, 1, 1])] M1 (fun i => (bif Nat.beq i 5 then (s142_p13_den K) else (bif Nat.beq i 0 then (s142_p1_den K) else (fun _ _ => False)))) (s142_R K)
theorem s142_p14_ok (K : Value → World → Prop) (B1 : List Value → World → Prop) (s : Nat → Value) (w : World) (h : s142_p14 K B1 (s 0) (s 3) (s 140) (s 141) w) : Tr (s142_p14_den K (fun s w => B1 [s 0, s 3, s 140, s 141] w) s w) :=
  tr_simple (P := Tryz.prog) (codes := [(cd (Tryz.f142.body.getD .skip) [1, 1, 1, 1, 0, 1, 0, 1, 1, 1, 1, 1, 1, 1, 1, 1, 1, 1, 1, 1, 0, 1, 0, 1, 0, 0, 0]), (cd (Tryz.f142.body.getD .skip) [1, 1, 1, 1, 0, 1, 0, 1, 1, 1, 1, 1, 1, 1, 1, 1, 1, 1, 1, 1, 0, 1, 0, 1, 0, 0, 1, 0]), (cd (Tryz.f142.body.getD .skip) [1, 1, 1, 1, 0, 1, 0, 1, 1, 1, 1, 1, 1, 1, 1, 1, 1, 1, 1, 1, 0, 1, 0, 1, 0, 0, 1, 1, 0]), (cd (Tryz.f142.body.getD .skip) [1, 1, 1, 1, 0, 1, 0, 1, 1, 1, 1, 1, 1, 1, 1, 1, 1, 1, 1, 1, 0, 1, 0, 1, 0, 0, 1, 1, 1])]) (N := (fun s w => B1 [s 0, s 3, s 140, s 141] w)) (N' := (fun s w => B1 [s 0, s 3, s 140, s 141] w)) (X := (fun i => (bif Nat.beq i 5 then (fun s w => s142_p13 K (s 0) (s 3) w) else (bif Nat.beq i 0 then (fun s w => s142_p1 K (s 0) w) else (fun _ _ => False))))) (X' := (fun i => (bif Nat.beq i 5 then (s142_p13_den K) else (bif Nat.beq i 0 then (s142_p1_den K) else (fun _ _ => False))))) (R := s142_R K) (s := s) (w := w) (p := s142_p14 K B1 (s 0) (s 3) (s 140) (s 141) w) (q := s142_p14_den K (fun s w => B1 [s 0, s 3, s 140, s 141] w) s w) tr_id (fun i => (tr_bif (fun s w h => s142_p13_ok K s w @h) (tr_bif (fun s w h => s142_p1_ok K s w @h) tr_id))) (by kernel_rfl) (by kernel_rfl) @h
def s142_p15_F (K : Value → World → Prop) (B1 : List Value → World → Prop) (l : List Value) (w : World) : Prop :=
  match l with
  | [t0, t3, t140, t141] => s142_p14 K B1 t0 t3 t140 t141 w
  | _ => False
theorem s142_p15_Fe {K : Value → World → Prop} {B1 : List Value → World → Prop} {t0 t3 t140 t141 : Value} {w : World} : s142_p15_F K B1 [t0, t3, t140, t141] w = s142_p14 K B1 t0 t3 t140 t141 w := by kernel_rfl
def s142_p15 (K : Value → World → Prop) (t0 t3 t140 t141 : Value) (w : World) : Prop :=
  LoopL (s142_p15_F K) [t0, t3, t140, t141] w
def s142_p15_den (K : Value → World → Prop) : (Nat → Value) → World → Prop := fun s w => LoopP (fun M1 s w => s142_p14_den K M1 s w) s w
theorem s142_p15_ok (K : Value → World → Prop) (s : Nat → Value) (w : World) (h : s142_p15 K (s 0) (s 3) (s 140) (s 141) w) : Tr (s142_p15_den K s w) :=
  tr_loop (G := fun N' s w => s142_p14_den K N' s w) (F := s142_p15_F K) (sel := fun s => [s 0, s 3, s 140, s 141]) (s := s) (w := w) (p := s142_p15 K (s 0) (s 3) (s 140) (s 141) w) (q := s142_p15_den K s w) (fun B s w h => s142_p14_ok K B s w @h) (by kernel_rfl) (by kernel_rfl) @h
def s142_p16 (K : Value → World → Prop) (t0 t3 : Value) (w : World) : Prop :=
  fd 13 t3 (fun t136 w =>
  ld1 t136 (fun t137 w =>
  cl Tryz.prog 136 #[t0, t137] (fun t138 w =>
  fd 14 t3 (fun t139 w =>
  ldn 3 t139 (fun t140 w =>
  s142_p15 K t138 t3 t140 (.int .i64 0) w) w) w) w) w) w
def s142_p16_den (K : Value → World → Prop) : (Nat → Value) → World → Prop := denL Tryz.prog [(cd (Tryz.f142.body.getD .skip) [1, 1, 1, 1, 0, 1, 0, 1, 1, 1, 1, 1, 1, 1, 1, 1, 1, 1, 1, 1, 0, 0]), (cd (Tryz.f142.body.getD .skip) [1, 1, 1, 1, 0, 1, 0, 1, 1, 1, 1, 1, 1, 1, 1, 1, 1, 1, 1, 1, 0, 1, 0, 0])] (s142_p15_den K) (fun i => (bif Nat.beq i 0 then (s142_p1_den K) else (fun _ _ => False))) (s142_R K)
theorem s142_p16_ok (K : Value → World → Prop) (s : Nat → Value) (w : World) (h : s142_p16 K (s 0) (s 3) w) : Tr (s142_p16_den K s w) :=
  tr_simple (P := Tryz.prog) (codes := [(cd (Tryz.f142.body.getD .skip) [1, 1, 1, 1, 0, 1, 0, 1, 1, 1, 1, 1, 1, 1, 1, 1, 1, 1, 1, 1, 0, 0]), (cd (Tryz.f142.body.getD .skip) [1, 1, 1, 1, 0, 1, 0, 1, 1, 1, 1, 1, 1, 1, 1, 1, 1, 1, 1, 1, 0, 1, 0, 0])]) (N := (fun s w => s142_p15 K (s 0) (s 3) (s 140) (s 141) w)) (N' := (s142_p15_den K)) (X := (fun i => (bif Nat.beq i 0 then (fun s w => s142_p1 K (s 0) w) else (fun _ _ => False)))) (X' := (fun i => (bif Nat.beq i 0 then (s142_p1_den K) else (fun _ _ => False)))) (R := s142_R K) (s := s) (w := w) (p := s142_p16 K (s 0) (s 3) w) (q := s142_p16_den K s w) (fun s w h => s142_p15_ok K s w @h) (fun i => (tr_bif (fun s w h => s142_p1_ok K s w @h) tr_id)) (by kernel_rfl) (by kernel_rfl) @h
def s142_p17 (K : Value → World → Prop) (B1 : List Value → World → Prop) (t0 t160 t161 t162 : Value) (w : World) : Prop :=
  boI .lss t162 t161 (fun t163 w =>
  ifb t163
  (ixs 1 t160 t162 (fun t164 w =>
  ld1 t164 (fun t165 w =>
  cl Tryz.prog 136 #[t0, t165] (fun t168 w =>
  boI .add t162 (.int .i64 1) (fun t169 w =>
  B1 [t168, t160, t161, t169] w) w) w) w) w)
  (s142_p1 K t0 w)) w
def s142_p17_den (K : Value → World → Prop) (M1 : (Nat → Value) → World → Prop) : (Nat → Value) → World → Prop := denL Tryz.prog [(cd (Tryz.f142.body.getD .skip) [1, 1, 1, 1, 0, 1, 0, 1, 1, 1, 1, 1, 1, 1, 1, 1, 1, 1, 1, 1, 1, 1, 0, 1, 1, 0, 0, 0]), (cd (Tryz.f142.body.getD .skip) [1, 1, 1, 1, 0, 1, 0, 1, 1, 1, 1, 1, 1, 1, 1, 1, 1, 1, 1, 1, 1, 1, 0, 1, 1, 0, 0, 1, 0]), (cd (Tryz.f142.body.getD .skip) [1, 1, 1, 1, 0, 1, 0, 1, 1, 1, 1, 1, 1, 1, 1, 1, 1, 1, 1, 1, 1, 1, 0, 1, 1, 0, 0, 1, 1, 0]), (cd (Tryz.f142.body.getD .skip) [1, 1, 1, 1, 0, 1, 0, 1, 1, 1, 1, 1, 1, 1, 1, 1, 1, 1, 1, 1, 1, 1, 0, 1, 1, 0, 0, 1, 1, 1])] M1 (fun i => (bif Nat.beq i 7 then (s142_p1_den K) else (bif Nat.beq i 0 then (s142_p1_den K) else (fun _ _ => False)))) (s142_R K)
theorem s142_p17_ok (K : Value → World → Prop) (B1 : List Value → World → Prop) (s : Nat → Value) (w : World) (h : s142_p17 K B1 (s 0) (s 160) (s 161) (s 162) w) : Tr (s142_p17_den K (fun s w => B1 [s 0, s 160, s 161, s 162] w) s w) :=
  tr_simple (P := Tryz.prog) (codes := [(cd (Tryz.f142.body.getD .skip) [1, 1, 1, 1, 0, 1, 0, 1, 1, 1, 1, 1, 1, 1, 1, 1, 1, 1, 1, 1, 1, 1, 0, 1, 1, 0, 0, 0]), (cd (Tryz.f142.body.getD .skip) [1, 1, 1, 1, 0, 1, 0, 1, 1, 1, 1, 1, 1, 1, 1, 1, 1, 1, 1, 1, 1, 1, 0, 1, 1, 0, 0, 1, 0]), (cd (Tryz.f142.body.getD .skip) [1, 1, 1, 1, 0, 1, 0, 1, 1, 1, 1, 1, 1, 1, 1, 1, 1, 1, 1, 1, 1, 1, 0, 1, 1, 0, 0, 1, 1, 0]), (cd (Tryz.f142.body.getD .skip) [1, 1, 1, 1, 0, 1, 0, 1, 1, 1, 1, 1, 1, 1, 1, 1, 1, 1, 1, 1, 1, 1, 0, 1, 1, 0, 0, 1, 1, 1])]) (N := (fun s w => B1 [s 0, s 160, s 161, s 162] w)) (N' := (fun s w => B1 [s 0, s 160, s 161, s 162] w)) (X := (fun i => (bif Nat.beq i 7 then (fun s w => s142_p1 K (s 0) w) else (bif Nat.beq i 0 then (fun s w => s142_p1 K (s 0) w) else (fun _ _ => False))))) (X' := (fun i => (bif Nat.beq i 7 then (s142_p1_den K) else (bif Nat.beq i 0 then (s142_p1_den K) else (fun _ _ => False))))) (R := s142_R K) (s := s) (w := w) (p := s142_p17 K B1 (s 0) (s 160) (s 161) (s 162) w) (q := s142_p17_den K (fun s w => B1 [s 0, s 160, s 161, s 162] w) s w) tr_id (fun i => (tr_bif (fun s w h => s142_p1_ok K s w @h) (tr_bif (fun s w h => s142_p1_ok K s w @h) tr_id))) (by kernel_rfl) (by kernel_rfl) @h
def s142_p18_F (K : Value → World → Prop) (B1 : List Value → World → Prop) (l : List Value) (w : World) : Prop :=
  match l with
  | [t0, t160, t161, t162] => s142_p17 K B1 t0 t160 t161 t162 w
  | _ => False
theorem s142_p18_Fe {K : Value → World → Prop} {B1 : List Value → World → Prop} {t0 t160 t161 t162 : Value} {w : World} : s142_p18_F K B1 [t0, t160, t161, t162] w = s142_p17 K B1 t0 t160 t161 t162 w := by kernel_rfl
def s142_p18 (K : Value → World → Prop) (t0 t160 t161 t162 : Value) (w : World) : Prop :=
  LoopL (s142_p18_F K) [t0, t160, t161, t162] w
def s142_p18_den (K : Value → World → Prop) : (Nat → Value) → World → Prop := fun s w => LoopP (fun M1 s w => s142_p17_den K M1 s w) s w
theorem s142_p18_ok (K : Value → World → Prop) (s : Nat → Value) (w : World) (h : s142_p18 K (s 0) (s 160) (s 161) (s 162) w) : Tr (s142_p18_den K s w) :=
  tr_loop (G := fun N' s w => s142_p17_den K N' s w) (F := s142_p18_F K) (sel := fun s => [s 0, s 160, s 161, s 162]) (s := s) (w := w) (p := s142_p18 K (s 0) (s 160) (s 161) (s 162) w) (q := s142_p18_den K s w) (fun B s w h => s142_p17_ok K B s w @h) (by kernel_rfl) (by kernel_rfl) @h
def s142_p19 (K : Value → World → Prop) (t0 t3 : Value) (w : World) : Prop :=
  fd 18 t3 (fun t155 w =>
  ld1 t155 (fun t156 w =>
  lnS t156 (fun t157 w =>
  cl Tryz.prog 136 #[t0, t157] (fun t158 w =>
  fd 18 t3 (fun t159 w =>
  ld1 t159 (fun t160 w =>
  lnS t160 (fun t161 w =>
  s142_p18 K t158 t160 t161 (.int .i64 0) w) w) w) w) w) w) w) w
def s142_p19_den (K : Value → World → Prop) : (Nat → Value) → World → Prop := denL Tryz.prog [(cd (Tryz.f142.body.getD .skip) [1, 1, 1, 1, 0, 1, 0, 1, 1, 1, 1, 1, 1, 1, 1, 1, 1, 1, 1, 1, 1, 1, 0, 0]), (cd (Tryz.f142.body.getD .skip) [1, 1, 1, 1, 0, 1, 0, 1, 1, 1, 1, 1, 1, 1, 1, 1, 1, 1, 1, 1, 1, 1, 0, 1, 0])] (s142_p18_den K) (fun i => (bif Nat.beq i 0 then (s142_p1_den K) else (fun _ _ => False))) (s142_R K)
theorem s142_p19_ok (K : Value → World → Prop) (s : Nat → Value) (w : World) (h : s142_p19 K (s 0) (s 3) w) : Tr (s142_p19_den K s w) :=
  tr_simple (P := Tryz.prog) (codes := [(cd (Tryz.f142.body.getD .skip) [1, 1, 1, 1, 0, 1, 0, 1, 1, 1, 1, 1, 1, 1, 1, 1, 1, 1, 1, 1, 1, 1, 0, 0]), (cd (Tryz.f142.body.getD .skip) [1, 1, 1, 1, 0, 1, 0, 1, 1, 1, 1, 1, 1, 1, 1, 1, 1, 1, 1, 1, 1, 1, 0, 1, 0])]) (N := (fun s w => s142_p18 K (s 0) (s 160) (s 161) (s 162) w)) (N' := (s142_p18_den K)) (X := (fun i => (bif Nat.beq i 0 then (fun s w => s142_p1 K (s 0) w) else (fun _ _ => False)))) (X' := (fun i => (bif Nat.beq i 0 then (s142_p1_den K) else (fun _ _ => False)))) (R := s142_R K) (s := s) (w := w) (p := s142_p19 K (s 0) (s 3) w) (q := s142_p19_den K s w) (fun s w h => s142_p18_ok K s w @h) (fun i => (tr_bif (fun s w h => s142_p1_ok K s w @h) tr_id)) (by kernel_rfl) (by kernel_rfl) @h
def s142_p20 (K : Value → World → Prop) (t0 t3 : Value) (w : World) : Prop :=
  fd 6 t3 (fun t173 w =>
  ld1 t173 (fun t174 w =>
  cl Tryz.prog 136 #[t0, t174] (fun t175 w =>
  fd 19 t3 (fun t177 w =>
  ld1 t177 (fun t178 w =>
  cl Tryz.prog 136 #[t175, t178] (fun t179 w =>
  fd 20 t3 (fun t181 w =>
  ld1 t181 (fun t182 w =>
  cl Tryz.prog 136 #[t179, t182] (fun t183 w =>
  s142_p1 K t183 w) w) w) w) w) w) w) w) w) w
def s142_p20_den (K : Value → World → Prop) : (Nat → Value) → World → Prop := denL Tryz.prog [(cd (Tryz.f142.body.getD .skip) [1, 1, 1, 1, 0, 1, 0, 1, 1, 1, 1, 1, 1, 1, 1, 1, 1, 1, 1, 1, 1, 1, 1, 1, 0, 0]), (cd (Tryz.f142.body.getD .skip) [1, 1, 1, 1, 0, 1, 0, 1, 1, 1, 1, 1, 1, 1, 1, 1, 1, 1, 1, 1, 1, 1, 1, 1, 0, 1, 0]), (cd (Tryz.f142.body.getD .skip) [1, 1, 1, 1, 0, 1, 0, 1, 1, 1, 1, 1, 1, 1, 1, 1, 1, 1, 1, 1, 1, 1, 1, 1, 0, 1, 1])] (s142_p1_den K) (fun i => (bif Nat.beq i 0 then (s142_p1_den K) else (fun _ _ => False))) (s142_R K)
theorem s142_p20_ok (K : Value → World → Prop) (s : Nat → Value) (w : World) (h : s142_p20 K (s 0) (s 3) w) : Tr (s142_p20_den K s w) :=
  tr_simple (P := Tryz.prog) (codes := [(cd (Tryz.f142.body.getD .skip) [1, 1, 1, 1, 0, 1, 0, 1, 1, 1, 1, 1, 1, 1, 1, 1, 1, 1, 1, 1, 1, 1, 1, 1, 0, 0]), (cd (Tryz.f142.body.getD .skip) [1, 1, 1, 1, 0, 1, 0, 1, 1, 1, 1, 1, 1, 1, 1, 1, 1, 1, 1, 1, 1, 1, 1, 1, 0, 1, 0]), (cd (Tryz.f142.body.getD .skip) [1, 1, 1, 1, 0, 1, 0, 1, 1, 1, 1, 1, 1, 1, 1, 1, 1, 1, 1, 1, 1, 1, 1, 1, 0, 1, 1])]) (N := (fun s w => s142_p1 K (s 0) w)) (N' := (s142_p1_den K)) (X := (fun i => (bif Nat.beq i 0 then (fun s w => s142_p1 K (s 0) w) else (fun _ _ => False)))) (X' := (fun i => (bif Nat.beq i 0 then (s142_p1_den K) else (fun _ _ => False)))) (R := s142_R K) (s := s) (w := w) (p := s142_p20 K (s 0) (s 3) w) (q := s142_p20_den K s w) (fun s w h => s142_p1_ok K s w @h) (fun i => (tr_bif (fun s w h => s142_p1_ok K s w @h) tr_id)) (by kernel_rfl) (by kernel_rfl) @h
def s142_p21 (K : Value → World → Prop) (t0 t3 : Value) (w : World) : Prop :=
  fd 21 t3 (fun t187 w =>
  ld1 t187 (fun t188 w =>
  cl Tryz.prog 136 #[t0, t188] (fun t189 w =>
  s142_p1 K t189 w) w) w) w
def s142_p21_den (K : Value → World → Prop) : (Nat → Value) → World → Prop := denL Tryz.prog [(cd (Tryz.f142.body.getD .skip) [1, 1, 1, 1, 0, 1, 0, 1, 1, 1, 1, 1, 1, 1, 1, 1, 1, 1, 1, 1, 1, 1, 1, 1, 1, 1, 0])] (s142_p1_den K) (fun i => (bif Nat.beq i 0 then (s142_p1_den K) else (fun _ _ => False))) (s142_R K)
theorem s142_p21_ok (K : Value → World → Prop) (s : Nat → Value) (w : World) (h : s142_p21 K (s 0) (s 3) w) : Tr (s142_p21_den K s w) :=
  tr_simple (P := Tryz.prog) (codes := [(cd (Tryz.f142.body.getD .skip) [1, 1, 1, 1, 0, 1, 0, 1, 1, 1, 1, 1, 1, 1, 1, 1, 1, 1, 1, 1, 1, 1, 1, 1, 1, 1, 0])]) (N := (fun s w => s142_p1 K (s 0) w)) (N' := (s142_p1_den K)) (X := (fun i => (bif Nat.beq i 0 then (fun s w => s142_p1 K (s 0) w) else (fun _ _ => False)))) (X' := (fun i => (bif Nat.beq i 0 then (s142_p1_den K) else (fun _ _ => False)))) (R := s142_R K) (s := s) (w := w) (p := s142_p21 K (s 0) (s 3) w) (q := s142_p21_den K s w) (fun s w h => s142_p1_ok K s w @h) (fun i => (tr_bif (fun s w h => s142_p1_ok K s w @h) tr_id)) (by kernel_rfl) (by kernel_rfl) @h
def s142_p22 (K : Value → World → Prop) (B1 : List Value → World → Prop) (t0 t193 t194 t195 : Value) (w : World) : Prop :=
  boI .lss t195 t194 (fun t196 w =>
  ifb t196
  (ixs 1 t193 t195 (fun t197 w =>
  ld1 t197 (fun t198 w =>
  cl Tryz.prog 136 #[t0, t198] (fun t201 w =>
  boI .add t195 (.int .i64 1) (fun t202 w =>
  B1 [t201, t193, t194, t202] w) w) w) w) w)
  (s142_p1 K t0 w)) w
def s142_p22_den (K : Value → World → Prop) (M1 : (Nat → Value) → World → Prop) : (Nat → Value) → World → Prop := denL Tryz.prog [(cd (Tryz.f142.body.getD .skip) [1, 1, 1, 1, 0, 1, 0, 1, 1, 1, 1, 1, 1, 1, 1, 1, 1, 1, 1, 1, 1, 1, 1, 1, 1, 1, 1, 1, 0, 1, 0, 0, 0]), (cd (Tryz.f142.body.getD .skip) [1, 1, 1, 1, 0, 1, 0, 1, 1, 1, 1, 1, 1, 1, 1, 1, 1, 1, 1, 1, 1, 1, 1, 1, 1, 1, 1, 1, 0, 1, 0, 0, 1, 0]), (cd (Tryz.f142.body.getD .skip) [1, 1, 1, 1, 0, 1, 0, 1, 1, 1, 1, 1, 1, 1, 1, 1, 1, 1, 1, 1, 1, 1, 1, 1, 1, 1, 1, 1, 0, 1, 0, 0, 1, 1, 0]), (cd (Tryz.f142.body.getD .skip) [1, 1, 1, 1, 0, 1, 0, 1, 1, 1, 1, 1, 1, 1, 1, 1, 1, 1, 1, 1, 1, 1, 1, 1, 1, 1, 1, 1, 0, 1, 0, 0, 1, 1, 1])] M1 (fun i => (bif Nat.beq i 9 then (s142_p1_den K) else (bif Nat.beq i 0 then (s142_p1_den K) else (fun _ _ => False)))) (s142_R K)
theorem s142_p22_ok (K : Value → World → Prop) (B1 : List Value → World → Prop) (s : Nat → Value) (w : World) (h : s142_p22 K B1 (s 0) (s 193) (s 194) (s 195) w) : Tr (s142_p22_den K (fun s w => B1 [s 0, s 193, s 194, s 195] w) s w) :=
  tr_simple (P := Tryz.prog) (codes := [(cd (Tryz.f142.body.getD .skip) [1, 1, 1, 1, 0, 1, 0, 1, 1, 1, 1, 1, 1, 1, 1, 1, 1, 1, 1, 1, 1, 1, 1, 1, 1, 1, 1, 1, 0, 1, 0, 0, 0]), (cd (Tryz.f142.body.getD .skip) [1, 1, 1, 1, 0, 1, 0, 1, 1, 1, 1, 1, 1, 1, 1, 1, 1, 1, 1, 1, 1, 1, 1, 1, 1, 1, 1, 1, 0, 1, 0, 0, 1, 0]), (cd (Tryz.f142.body.getD .skip) [1, 1, 1, 1, 0, 1, 0, 1, 1, 1, 1, 1, 1, 1, 1, 1, 1, 1, 1, 1, 1, 1, 1, 1, 1, 1, 1, 1, 0, 1, 0, 0, 1, 1, 0]), (cd (Tryz.f142.body.getD .skip) [1, 1, 1, 1, 0, 1, 0, 1, 1, 1, 1, 1, 1, 1, 1, 1, 1, 1, 1, 1, 1, 1, 1, 1, 1, 1, 1, 1, 0, 1, 0, 0, 1, 1, 1])]) (N := (fun s w => B1 [s 0, s 193, s 194, s 195] w)) (N' := (fun s w => B1 [s 0, s 193, s 194, s 195] w)) (X := (fun i => (bif Nat.beq i 9 then (fun s w => s142_p1 K (s 0) w) else (bif Nat.beq i 0 then (fun s w => s142_p1 K (s 0) w) else (fun _ _ => False))))) (X' := (fun i => (bif Nat.beq i 9 then (s142_p1_den K) else (bif Nat.beq i 0 then (s142_p1_den K) else (fun _ _ => False))))) (R := s142_R K) (s := s) (w := w) (p := s142_p22 K B1 (s 0) (s 193) (s 194) (s 195) w) (q := s142_p22_den K (fun s w => B1 [s 0, s 193, s 194, s 195] w) s w) tr_id (fun i => (tr_bif (fun s w h => s142_p1_ok K s w @h) (tr_bif (fun s w h => s142_p1_ok K s w @h) tr_id))) (by kernel_rfl) (by kernel_rfl) @h
def s142_p23_F (K : Value → World → Prop) (B1 : List Value → World → Prop) (l : List Value) (w : World) : Prop :=
  match l with
  | [t0, t193, t194, t195] => s142_p22 K B1 t0 t193 t194 t195 w
  | _ => False
theorem s142_p23_Fe {K : Value → World → Prop} {B1 : List Value → World → Prop} {t0 t193 t194 t195 : Value} {w : World} : s142_p23_F K B1 [t0, t193, t194, t195] w = s142_p22 K B1 t0 t193 t194 t195 w := by kernel_rfl
def s142_p23 (K : Value → World → Prop) (t0 t193 t194 t195 : Value) (w : World) : Prop :=
  LoopL (s142_p23_F K) [t0, t193, t194, t195] w
def s142_p23_den (K : Value → World → Prop) : (Nat → Value) → World → Prop := fun s w => LoopP (fun M1 s w => s142_p22_den K M1 s w) s w
theorem s142_p23_ok (K : Value → World → Prop) (s : Nat → Value) (w : World) (h : s142_p23 K (s 0) (s 193) (s 194) (s 195) w) : Tr (s142_p23_den K s w) :=
  tr_loop (G := fun N' s w => s142_p22_den K N' s w) (F := s142_p23_F K) (sel := fun s => [s 0, s 193, s 194, s 195]) (s := s) (w := w) (p := s142_p23 K (s 0) (s 193) (s 194) (s 195) w) (q := s142_p23_den K s w) (fun B s w h => s142_p22_ok K B s w @h) (by kernel_rfl) (by kernel_rfl) @h
def s142_p24 (K : Value → World → Prop) (t0 t3 : Value) (w : World) : Prop :=
  fd 22 t3 (fun t192 w =>
  sla 10 1 t192 (some (.int .i64 1)) none (fun t193 w =>
  lnS t193 (fun t194 w =>
  s142_p23 K t0 t193 t194 (.int .i64 0) w) w) w) w
def s142_p24_den (K : Value → World → Prop) : (Nat → Value) → World → Prop := denL Tryz.prog [(cd (Tryz.f142.body.getD .skip) [1, 1, 1, 1, 0, 1, 0, 1, 1, 1, 1, 1, 1, 1, 1, 1, 1, 1, 1, 1, 1, 1, 1, 1, 1, 1, 1, 1, 0, 0])] (s142_p23_den K) (fun i => (bif Nat.beq i 0 then (s142_p1_den K) else (fun _ _ => False))) (s142_R K)
theorem s142_p24_ok (K : Value → World → Prop) (s : Nat → Value) (w : World) (h : s142_p24 K (s 0) (s 3) w) : Tr (s142_p24_den K s w) :=
  tr_simple (P := Tryz.prog) (codes := [(cd (Tryz.f142.body.getD .skip) [1, 1, 1, 1, 0, 1, 0, 1, 1, 1, 1, 1, 1, 1, 1, 1, 1, 1, 1, 1, 1, 1, 1, 1, 1, 1, 1, 1, 0, 0])]) (N := (fun s w => s142_p23 K (s 0) (s 193) (s 194) (s 195) w)) (N' := (s142_p23_den K)) (X := (fun i => (bif Nat.beq i 0 then (fun s w => s142_p1 K (s 0) w) else (fun _ _ => False)))) (X' := (fun i => (bif Nat.beq i 0 then (s142_p1_den K) else (fun _ _ => False)))) (R := s142_R K) (s := s) (w := w) (p := s142_p24 K (s 0) (s 3) w) (q := s142_p24_den K s w) (fun s w h => s142_p23_ok K s w @h) (fun i => (tr_bif (fun s w h => s142_p1_ok K s w @h) tr_id)) (by kernel_rfl) (by kernel_rfl) @h
def s142_p25 (K : Value → World → Prop) (t0 t3 t31 : Value) (w : World) : Prop :=
  boI .eql t31 (.int .u8 24) (fun t204 w =>
  ifb t204
  (fd 32 t3 (fun t206 w =>
  ld1 t206 (fun t207 w =>
  cl Tryz.prog 136 #[t0, t207] (fun t208 w =>
  fd 4 t3 (fun t210 w =>
  ld1 t210 (fun t211 w =>
  cl Tryz.prog 136 #[t208, t211] (fun t212 w =>
  fd 33 t3 (fun t214 w =>
  ld1 t214 (fun t215 w =>
  cl Tryz.prog 136 #[t212, t215] (fun t216 w =>
  s142_p1 K t216 w) w) w) w) w) w) w) w) w) w)
  (s142_p1 K t0 w)) w
def s142_p25_den (K : Value → World → Prop) : (Nat → Value) → World → Prop := denL Tryz.prog [(cd (Tryz.f142.body.getD .skip) [1, 1, 1, 1, 0, 1, 0, 1, 1, 1, 1, 1, 1, 1, 1, 1, 1, 1, 1, 1, 1, 1, 1, 1, 1, 1, 1, 1, 1, 0]), (cd (Tryz.f142.body.getD .skip) [1, 1, 1, 1, 0, 1, 0, 1, 1, 1, 1, 1, 1, 1, 1, 1, 1, 1, 1, 1, 1, 1, 1, 1, 1, 1, 1, 1, 1, 1])] (s142_p1_den K) (fun i => (bif Nat.beq i 0 then (s142_p1_den K) else (fun _ _ => False))) (s142_R K)
theorem s142_p25_ok (K : Value → World → Prop) (s : Nat → Value) (w : World) (h : s142_p25 K (s 0) (s 3) (s 31) w) : Tr (s142_p25_den K s w) :=
  tr_simple (P := Tryz.prog) (codes := [(cd (Tryz.f142.body.getD .skip) [1, 1, 1, 1, 0, 1, 0, 1, 1, 1, 1, 1, 1, 1, 1, 1, 1, 1, 1, 1, 1, 1, 1, 1, 1, 1, 1, 1, 1, 0]), (cd (Tryz.f142.body.getD .skip) [1, 1, 1, 1, 0, 1, 0, 1, 1, 1, 1, 1, 1, 1, 1, 1, 1, 1, 1, 1, 1, 1, 1, 1, 1, 1, 1, 1, 1, 1])]) (N := (fun s w => s142_p1 K (s 0) w)) (N' := (s142_p1_den K)) (X := (fun i => (bif Nat.beq i 0 then (fun s w => s142_p1 K (s 0) w) else (fun _ _ => False)))) (X' := (fun i => (bif Nat.beq i 0 then (s142_p1_den K) else (fun _ _ => False)))) (R := s142_R K) (s := s) (w := w) (p := s142_p25 K (s 0) (s 3) (s 31) w) (q := s142_p25_den K s w) (fun s w h => s142_p1_ok K s w @h) (fun i => (tr_bif (fun s w h => s142_p1_ok K s w @h) tr_id)) (by kernel_rfl) (by kernel_rfl) @h
def s142_p26 (K : Value → World → Prop) (t0 t3 t31 t190 : Value) (w : World) : Prop :=
  ifb t190
  (s142_p24 K t0 t3 w)
  (s142_p25 K t0 t3 t31 w)
def s142_p26_den (K : Value → World → Prop) : (Nat → Value) → World → Prop := fun s w => ifb (ev s (.tmp 190)) ((s142_p24_den K) s w) ((s142_p25_den K) s w)
theorem s142_p26_ok (K : Value → World → Prop) (s : Nat → Value) (w : World) (h : s142_p26 K (s 0) (s 3) (s 31) (s 190) w) : Tr (s142_p26_den K s w) :=
  tr_cond (v := ev s (.tmp 190)) (a := (fun s w => s142_p24 K (s 0) (s 3) w) s w) (a' := (s142_p24_den K) s w) (b := (fun s w => s142_p25 K (s 0) (s 3) (s 31) w) s w) (b' := (s142_p25_den K) s w) (p := s142_p26 K (s 0) (s 3) (s 31) (s 190) w) (q := s142_p26_den K s w) ((fun s w h => s142_p24_ok K s w @h) s w) ((fun s w h => s142_p25_ok K s w @h) s w) (by kernel_rfl) (by kernel_rfl) @h
def s142_p27 (K : Value → World → Prop) (t0 t3 t31 : Value) (w : World) : Prop :=
  boI .eql t31 (.int .u8 23) (fun t191 w =>
  s142_p26 K t0 t3 t31 t191 w) w
def s142_p27_den (K : Value → World → Prop) : (Nat → Value) → World → Prop := denL Tryz.prog [(cd (Tryz.f142.body.getD .skip) [1, 1, 1, 1, 0, 1, 0, 1, 1, 1, 1, 1, 1, 1, 1, 1, 1, 1, 1, 1, 1, 1, 1, 1, 1, 1, 1, 0])] (s142_p26_den K) (fun i => (bif Nat.beq i 0 then (s142_p1_den K) else (fun _ _ => False))) (s142_R K)
theorem s142_p27_ok (K : Value → World → Prop) (s : Nat → Value) (w : World) (h : s142_p27 K (s 0) (s 3) (s 31) w) : Tr (s142_p27_den K s w) :=
  tr_simple (P := Tryz.prog) (codes := [(cd (Tryz.f142.body.getD .skip) [1, 1, 1, 1, 0, 1, 0, 1, 1, 1, 1, 1, 1, 1, 1, 1, 1, 1, 1, 1, 1, 1, 1, 1, 1, 1, 1, 0])]) (N := (fun s w => s142_p26 K (s 0) (s 3) (s 31) (s 190) w)) (N' := (s142_p26_den K)) (X := (fun i => (bif Nat.beq i 0 then (fun s w => s142_p1 K (s 0) w) else (fun _ _ => False)))) (X' := (fun i => (bif Nat.beq i 0 then (s142_p1_den K) else (fun _ _ => False)))) (R := s142_R K) (s := s) (w := w) (p := s142_p27 K (s 0) (s 3) (s 31) w) (q := s142_p27_den K s w) (fun s w h => s142_p26_ok K s w @h) (fun i => (tr_bif (fun s w h => s142_p1_ok K s w @h) tr_id)) (by kernel_rfl) (by kernel_rfl) @h
def s142_p28 (K : Value → World → Prop) (t0 t3 t31 t184 : Value) (w : World) : Prop :=
  ifb t184
  (s142_p21 K t0 t3 w)
  (s142_p27 K t0 t3 t31 w)
def s142_p28_den (K : Value → World → Prop) : (Nat → Value) → World → Prop := fun s w => ifb (ev s (.tmp 184)) ((s142_p21_den K) s w) ((s142_p27_den K) s w)
theorem s142_p28_ok (K : Value → World → Prop) (s : Nat → Value) (w : World) (h : s142_p28 K (s 0) (s 3) (s 31) (s 184) w) : Tr (s142_p28_den K s w) :=
  tr_cond (v := ev s (.tmp 184)) (a := (fun s w => s142_p21 K (s 0) (s 3) w) s w) (a' := (s142_p21_den K) s w) (b := (fun s w => s142_p27 K (s 0) (s 3) (s 31) w) s w) (b' := (s142_p27_den K) s w) (p := s142_p28 K (s 0) (s 3) (s 31) (s 184) w) (q := s142_p28_den K s w) ((fun s w h => s142_p21_ok K s w @h) s w) ((fun s w h => s142_p27_ok K s w @h) s w) (by kernel_rfl) (by kernel_rfl) @h
def s142_p29 (K : Value → World → Prop) (t0 t3 t31 : Value) (w : World) : Prop :=
  boI .eql t31 (.int .u8 21) (fun t185 w =>
  s142_p28 K t0 t3 t31 t185 w) w
def s142_p29_den (K : Value → World → Prop) : (Nat → Value) → World → Prop := denL Tryz.prog [(cd (Tryz.f142.body.getD .skip) [1, 1, 1, 1, 0, 1, 0, 1, 1, 1, 1, 1, 1, 1, 1, 1, 1, 1, 1, 1, 1, 1, 1, 1, 1, 0])] (s142_p28_den K) (fun i => (bif Nat.beq i 0 then (s142_p1_den K) else (fun _ _ => False))) (s142_R K)
theorem s142_p29_ok (K : Value → World → Prop) (s : Nat → Value) (w : World) (h : s142_p29 K (s 0) (s 3) (s 31) w) : Tr (s142_p29_den K s w) :=
  tr_simple (P := Tryz.prog) (codes := [(cd (Tryz.f142.body.getD .skip) [1, 1, 1, 1, 0, 1, 0, 1, 1, 1, 1, 1, 1, 1, 1, 1, 1, 1, 1, 1, 1, 1, 1, 1, 1, 0])]) (N := (fun s w => s142_p28 K (s 0) (s 3) (s 31) (s 184) w)) (N' := (s142_p28_den K)) (X := (fun i => (bif Nat.beq i 0 then (fun s w => s142_p1 K (s 0) w) else (fun _ _ => False)))) (X' := (fun i => (bif Nat.beq i 0 then (s142_p1_den K) else (fun _ _ => False)))) (R := s142_R K) (s := s) (w := w) (p := s142_p29 K (s 0) (s 3) (s 31) w) (q := s142_p29_den K s w) (fun s w h => s142_p28_ok K s w @h) (fun i => (tr_bif (fun s w h => s142_p1_ok K s w @h) tr_id)) (by kernel_rfl) (by kernel_rfl) @h
def s142_p30 (K : Value → World → Prop) (t0 t3 t31 t170 : Value) (w : World) : Prop :=
  ifb t170
  (s142_p20 K t0 t3 w)
  (s142_p29 K t0 t3 t31 w)
def s142_p30_den (K : Value → World → Prop) : (Nat → Value) → World → Prop := fun s w => ifb (ev s (.tmp 170)) ((s142_p20_den K) s w) ((s142_p29_den K) s w)
theorem s142_p30_ok (K : Value → World → Prop) (s : Nat → Value) (w : World) (h : s142_p30 K (s 0) (s 3) (s 31) (s 170) w) : Tr (s142_p30_den K s w) :=
  tr_cond (v := ev s (.tmp 170)) (a := (fun s w => s142_p20 K (s 0) (s 3) w) s w) (a' := (s142_p20_den K) s w) (b := (fun s w => s142_p29 K (s 0) (s 3) (s 31) w) s w) (b' := (s142_p29_den K) s w) (p := s142_p30 K (s 0) (s 3) (s 31) (s 170) w) (q := s142_p30_den K s w) ((fun s w h => s142_p20_ok K s w @h) s w) ((fun s w h => s142_p29_ok K s w @h) s w) (by kernel_rfl) (by kernel_rfl) @h
def s142_p31 (K : Value → World → Prop) (t0 t3 t31 : Value) (w : World) : Prop :=
  boI .eql t31 (.int .u8 20) (fun t171 w =>
  s142_p30 K t0 t3 t31 t171 w) w
def s142_p31_den (K : Value → World → Prop) : (Nat → Value) → World → Prop := denL Tryz.prog [(cd (Tryz.f142.body.getD .skip) [1, 1, 1, 1, 0, 1, 0, 1, 1, 1, 1, 1, 1, 1, 1, 1, 1, 1, 1, 1, 1, 1, 1, 0])] (s142_p30_den K) (fun i => (bif Nat.beq i 0 then (s142_p1_den K) else (fun _ _ => False))) (s142_R K)
theorem s142_p31_ok (K : Value → World → Prop) (s : Nat → Value) (w : World) (h : s142_p31 K (s 0) (s 3) (s 31) w) : Tr (s142_p31_den K s w) :=
  tr_simple (P := Tryz.prog) (codes := [(cd (Tryz.f142.body.getD .skip) [1, 1, 1, 1, 0, 1, 0, 1, 1, 1, 1, 1, 1, 1, 1, 1, 1, 1, 1, 1, 1, 1, 1, 0])]) (N := (fun s w => s142_p30 K (s 0) (s 3) (s 31) (s 170) w)) (N' := (s142_p30_den K)) (X := (fun i => (bif Nat.beq i 0 then (fun s w => s142_p1 K (s 0) w) else (fun _ _ => False)))) (X' := (fun i => (bif Nat.beq i 0 then (s142_p1_den K) else (fun _ _ => False)))) (R := s142_R K) (s := s) (w := w) (p := s142_p31 K (s 0) (s 3) (s 31) w) (q := s142_p31_den K s w) (fun s w h => s142_p30_ok K s w @h) (fun i => (tr_bif (fun s w h => s142_p1_ok K s w @h) tr_id)) (by kernel_rfl) (by kernel_rfl) @h
def s142_p32 (K : Value → World → Prop) (t0 t3 t31 t152 : Value) (w : World) : Prop :=
  ifb t152
  (s142_p19 K t0 t3 w)
  (s142_p31 K t0 t3 t31 w)
def s142_p32_den (K : Value → World → Prop) : (Nat → Value) → World → Prop := fun s w => ifb (ev s (.tmp 152)) ((s142_p19_den K) s w) ((s142_p31_den K) s w)
theorem s142_p32_ok (K : Value → World → Prop) (s : Nat → Value) (w : World) (h : s142_p32 K (s 0) (s 3) (s 31) (s 152) w) : Tr (s142_p32_den K s w) :=
  tr_cond (v := ev s (.tmp 152)) (a := (fun s w => s142_p19 K (s 0) (s 3) w) s w) (a' := (s142_p19_den K) s w) (b := (fun s w => s142_p31 K (s 0) (s 3) (s 31) w) s w) (b' := (s142_p31_den K) s w) (p := s142_p32 K (s 0) (s 3) (s 31) (s 152) w) (q := s142_p32_den K s w) ((fun s w h => s142_p19_ok K s w @h) s w) ((fun s w h => s142_p31_ok K s w @h) s w) (by kernel_rfl) (by kernel_rfl) @h
def s142_p33 (K : Value → World → Prop) (t0 t3 t31 : Value) (w : World) : Prop :=
  boI .eql t31 (.int .u8 19) (fun t153 w =>
  s142_p32 K t0 t3 t31 t153 w) w
def s142_p33_den (K : Value → World → Prop) : (Nat → Value) → World → Prop := denL Tryz.prog [(cd (Tryz.f142.body.getD .skip) [1, 1, 1, 1, 0, 1, 0, 1, 1, 1, 1, 1, 1, 1, 1, 1, 1, 1, 1, 1, 1, 0])] (s142_p32_den K) (fun i => (bif Nat.beq i 0 then (s142_p1_den K) else (fun _ _ => False))) (s142_R K)
theorem s142_p33_ok (K : Value → World → Prop) (s : Nat → Value) (w : World) (h : s142_p33 K (s 0) (s 3) (s 31) w) : Tr (s142_p33_den K s w) :=
  tr_simple (P := Tryz.prog) (codes := [(cd (Tryz.f142.body.getD .skip) [1, 1, 1, 1, 0, 1, 0, 1, 1, 1, 1, 1, 1, 1, 1, 1, 1, 1, 1, 1, 1, 0])]) (N := (fun s w => s142_p32 K (s 0) (s 3) (s 31) (s 152) w)) (N' := (s142_p32_den K)) (X := (fun i => (bif Nat.beq i 0 then (fun s w => s142_p1 K (s 0) w) else (fun _ _ => False)))) (X' := (fun i => (bif Nat.beq i 0 then (s142_p1_den K) else (fun _ _ => False)))) (R := s142_R K) (s := s) (w := w) (p := s142_p33 K (s 0) (s 3) (s 31) w) (q := s142_p33_den K s w) (fun s w h => s142_p32_ok K s w @h) (fun i => (tr_bif (fun s w h => s142_p1_ok K s w @h) tr_id)) (by kernel_rfl) (by kernel_rfl) @h
def s142_p34 (K : Value → World → Prop) (t0 t3 t31 t133 : Value) (w : World) : Prop :=
  ifb t133
  (s142_p16 K t0 t3 w)
  (s142_p33 K t0 t3 t31 w)
def s142_p34_den (K : Value → World → Prop) : (Nat → Value) → World → Prop := fun s w => ifb (ev s (.tmp 133)) ((s142_p16_den K) s w) ((s142_p33_den K) s w)
theorem s142_p34_ok (K : Value → World → Prop) (s : Nat → Value) (w : World) (h : s142_p34 K (s 0) (s 3) (s 31) (s 133) w) : Tr (s142_p34_den K s w) :=
  tr_cond (v := ev s (.tmp 133)) (a := (fun s w => s142_p16 K (s 0) (s 3) w) s w) (a' := (s142_p16_den K) s w) (b := (fun s w => s142_p33 K (s 0) (s 3) (s 31) w) s w) (b' := (s142_p33_den K) s w) (p := s142_p34 K (s 0) (s 3) (s 31) (s 133) w) (q := s142_p34_den K s w) ((fun s w h => s142_p16_ok K s w @h) s w) ((fun s w h => s142_p33_ok K s w @h) s w) (by kernel_rfl) (by kernel_rfl) @h
def s142_p35 (K : Value → World → Prop) (t0 t3 t31 : Value) (w : World) : Prop :=
  boI .eql t31 (.int .u8 18) (fun t134 w =>
  s142_p34 K t0 t3 t31 t134 w) w
def s142_p35_den (K : Value → World → Prop) : (Nat → Value) → World → Prop := denL Tryz.prog [(cd (Tryz.f142.body.getD .skip) [1, 1, 1, 1, 0, 1, 0, 1, 1, 1, 1, 1, 1, 1, 1, 1, 1, 1, 1, 0])] (s142_p34_den K) (fun i => (bif Nat.beq i 0 then (s142_p1_den K) else (fun _ _ => False))) (s142_R K)
theorem s142_p35_ok (K : Value → World → Prop) (s : Nat → Value) (w : World) (h : s142_p35 K (s 0) (s 3) (s 31) w) : Tr (s142_p35_den K s w) :=
  tr_simple (P := Tryz.prog) (codes := [(cd (Tryz.f142.body.getD .skip) [1, 1, 1, 1, 0, 1, 0, 1, 1, 1, 1, 1, 1, 1, 1, 1, 1, 1, 1, 0])]) (N := (fun s w => s142_p34 K (s 0) (s 3) (s 31) (s 133) w)) (N' := (s142_p34_den K)) (X := (fun i => (bif Nat.beq i 0 then (fun s w => s142_p1 K (s 0) w) else (fun _ _ => False)))) (X' := (fun i => (bif Nat.beq i 0 then (s142_p1_den K) else (fun _ _ => False)))) (R := s142_R K) (s := s) (w := w) (p := s142_p35 K (s 0) (s 3) (s 31) w) (q := s142_p35_den K s w) (fun s w h => s142_p34_ok K s w @h) (fun i => (tr_bif (fun s w h => s142_p1_ok K s w @h) tr_id)) (by kernel_rfl) (by kernel_rfl) @h
def s142_p36 (K : Value → World → Prop) (t0 t3 t31 t111 : Value) (w : World) : Prop :=
  ifb t111
  (s142_p12 K t0 t3 w)
  (s142_p35 K t0 t3 t31 w)
def s142_p36_den (K : Value → World → Prop) : (Nat → Value) → World → Prop := fun s w => ifb (ev s (.tmp 111)) ((s142_p12_den K) s w) ((s142_p35_den K) s w)
theorem s142_p36_ok (K : Value → World → Prop) (s : Nat → Value) (w : World) (h : s142_p36 K (s 0) (s 3) (s 31) (s 111) w) : Tr (s142_p36_den K s w) :=
  tr_cond (v := ev s (.tmp 111)) (a := (fun s w => s142_p12 K (s 0) (s 3) w) s w) (a' := (s142_p12_den K) s w) (b := (fun s w => s142_p35 K (s 0) (s 3) (s 31) w) s w) (b' := (s142_p35_den K) s w) (p := s142_p36 K (s 0) (s 3) (s 31) (s 111) w) (q := s142_p36_den K s w) ((fun s w h => s142_p12_ok K s w @h) s w) ((fun s w h => s142_p35_ok K s w @h) s w) (by kernel_rfl) (by kernel_rfl) @h
def s142_p37 (K : Value → World → Prop) (t0 t3 t31 : Value) (w : World) : Prop :=
  boI .eql t31 (.int .u8 17) (fun t112 w =>
  s142_p36 K t0 t3 t31 t112 w) w
def s142_p37_den (K : Value → World → Prop) : (Nat → Value) → World → Prop := denL Tryz.prog [(cd (Tryz.f142.body.getD .skip) [1, 1, 1, 1, 0, 1, 0, 1, 1, 1, 1, 1, 1, 1, 1, 1, 1, 0])] (s142_p36_den K) (fun i => (bif Nat.beq i 0 then (s142_p1_den K) else (fun _ _ => False))) (s142_R K)
theorem s142_p37_ok (K : Value → World → Prop) (s : Nat → Value) (w : World) (h : s142_p37 K (s 0) (s 3) (s 31) w) : Tr (s142_p37_den K s w) :=
  tr_simple (P := Tryz.prog) (codes := [(cd (Tryz.f142.body.getD .skip) [1, 1, 1, 1, 0, 1, 0, 1, 1, 1, 1, 1, 1, 1, 1, 1, 1, 0])]) (N := (fun s w => s142_p36 K (s 0) (s 3) (s 31) (s 111) w)) (N' := (s142_p36_den K)) (X := (fun i => (bif Nat.beq i 0 then (fun s w => s142_p1 K (s 0) w) else (fun _ _ => False)))) (X' := (fun i => (bif Nat.beq i 0 then (s142_p1_den K) else (fun _ _ => False)))) (R := s142_R K) (s := s) (w := w) (p := s142_p37 K (s 0) (s 3) (s 31) w) (q := s142_p37_den K s w) (fun s w h => s142_p36_ok K s w @h) (fun i => (tr_bif (fun s w h => s142_p1_ok K s w @h) tr_id)) (by kernel_rfl) (by kernel_rfl) @h
def s142_p38 (K : Value → World → Prop) (t0 t3 t31 t103 : Value) (w : World) : Prop :=
  ifb t103
  (s142_p9 K t0 t3 w)
  (s142_p37 K t0 t3 t31 w)
def s142_p38_den (K : Value → World → Prop) : (Nat → Value) → World → Prop := fun s w => ifb (ev s (.tmp 103)) ((s142_p9_den K) s w) ((s142_p37_den K) s w)
theorem s142_p38_ok (K : Value → World → Prop) (s : Nat → Value) (w : World) (h : s142_p38 K (s 0) (s 3) (s 31) (s 103) w) : Tr (s142_p38_den K s w) :=
  tr_cond (v := ev s (.tmp 103)) (a := (fun s w => s142_p9 K (s 0) (s 3) w) s w) (a' := (s142_p9_den K) s w) (b := (fun s w => s142_p37 K (s 0) (s 3) (s 31) w) s w) (b' := (s142_p37_den K) s w) (p := s142_p38 K (s 0) (s 3) (s 31) (s 103) w) (q := s142_p38_den K s w) ((fun s w h => s142_p9_ok K s w @h) s w) ((fun s w h => s142_p37_ok K s w @h) s w) (by kernel_rfl) (by kernel_rfl) @h
def s142_p39 (K : Value → World → Prop) (t0 t3 t31 : Value) (w : World) : Prop :=
  boI .eql t31 (.int .u8 16) (fun t104 w =>
  s142_p38 K t0 t3 t31 t104 w) w
def s142_p39_den (K : Value → World → Prop) : (Nat → Value) → World → Prop := denL Tryz.prog [(cd (Tryz.f142.body.getD .skip) [1, 1, 1, 1, 0, 1, 0, 1, 1, 1, 1, 1, 1, 1, 1, 0])] (s142_p38_den K) (fun i => (bif Nat.beq i 0 then (s142_p1_den K) else (fun _ _ => False))) (s142_R K)
theorem s142_p39_ok (K : Value → World → Prop) (s : Nat → Value) (w : World) (h : s142_p39 K (s 0) (s 3) (s 31) w) : Tr (s142_p39_den K s w) :=
  tr_simple (P := Tryz.prog) (codes := [(cd (Tryz.f142.body.getD .skip) [1, 1, 1, 1, 0, 1, 0, 1, 1, 1, 1, 1, 1, 1, 1, 0])]) (N := (fun s w => s142_p38 K (s 0) (s 3) (s 31) (s 103) w)) (N' := (s142_p38_den K)) (X := (fun i => (bif Nat.beq i 0 then (fun s w => s142_p1 K (s 0) w) else (fun _ _ => False)))) (X' := (fun i => (bif Nat.beq i 0 then (s142_p1_den K) else (fun _ _ => False)))) (R := s142_R K) (s := s) (w := w) (p := s142_p39 K (s 0) (s 3) (s 31) w) (q := s142_p39_den K s w) (fun s w h => s142_p38_ok K s w @h) (fun i => (tr_bif (fun s w h => s142_p1_ok K s w @h) tr_id)) (by kernel_rfl) (by kernel_rfl) @h
def s142_p40 (K : Value → World → Prop) (t0 t3 t31 t64 : Value) (w : World) : Prop :=
  ifb t64
  (s142_p8 K t0 t3 w)
  (s142_p39 K t0 t3 t31 w)
def s142_p40_den (K : Value → World → Prop) : (Nat → Value) → World → Prop := fun s w => ifb (ev s (.tmp 64)) ((s142_p8_den K) s w) ((s142_p39_den K) s w)
theorem s142_p40_ok (K : Value → World → Prop) (s : Nat → Value) (w : World) (h : s142_p40 K (s 0) (s 3) (s 31) (s 64) w) : Tr (s142_p40_den K s w) :=
  tr_cond (v := ev s (.tmp 64)) (a := (fun s w => s142_p8 K (s 0) (s 3) w) s w) (a' := (s142_p8_den K) s w) (b := (fun s w => s142_p39 K (s 0) (s 3) (s 31) w) s w) (b' := (s142_p39_den K) s w) (p := s142_p40 K (s 0) (s 3) (s 31) (s 64) w) (q := s142_p40_den K s w) ((fun s w h => s142_p8_ok K s w @h) s w) ((fun s w h => s142_p39_ok K s w @h) s w) (by kernel_rfl) (by kernel_rfl) @h
def s142_p41 (K : Value → World → Prop) (t0 t3 t31 : Value) (w : World) : Prop :=
  boI .eql t31 (.int .u8 9) (fun t65 w =>
  s142_p40 K t0 t3 t31 t65 w) w
def s142_p41_den (K : Value → World → Prop) : (Nat → Value) → World → Prop := denL Tryz.prog [(cd (Tryz.f142.body.getD .skip) [1, 1, 1, 1, 0, 1, 0, 1, 1, 1, 1, 1, 1, 0])] (s142_p40_den K) (fun i => (bif Nat.beq i 0 then (s142_p1_den K) else (fun _ _ => False))) (s142_R K)
theorem s142_p41_ok (K : Value → World → Prop) (s : Nat → Value) (w : World) (h : s142_p41 K (s 0) (s 3) (s 31) w) : Tr (s142_p41_den K s w) :=
  tr_simple (P := Tryz.prog) (codes := [(cd (Tryz.f142.body.getD .skip) [1, 1, 1, 1, 0, 1, 0, 1, 1, 1, 1, 1, 1, 0])]) (N := (fun s w => s142_p40 K (s 0) (s 3) (s 31) (s 64) w)) (N' := (s142_p40_den K)) (X := (fun i => (bif Nat.beq i 0 then (fun s w => s142_p1 K (s 0) w) else (fun _ _ => False)))) (X' := (fun i => (bif Nat.beq i 0 then (s142_p1_den K) else (fun _ _ => False)))) (R := s142_R K) (s := s) (w := w) (p := s142_p41 K (s 0) (s 3) (s 31) w) (q := s142_p41_den K s w) (fun s w h => s142_p40_ok K s w @h) (fun i => (tr_bif (fun s w h => s142_p1_ok K s w @h) tr_id)) (by kernel_rfl) (by kernel_rfl) @h
def s142_p42 (K : Value → World → Prop) (t0 t3 t31 t53 : Value) (w : World) : Prop :=
  ifb t53
  (s142_p4 K t0 t3 w)
  (s142_p41 K t0 t3 t31 w)
def s142_p42_den (K : Value → World → Prop) : (Nat → Value) → World → Prop := fun s w => ifb (ev s (.tmp 53)) ((s142_p4_den K) s w) ((s142_p41_den K) s w)
theorem s142_p42_ok (K : Value → World → Prop) (s : Nat → Value) (w : World) (h : s142_p42 K (s 0) (s 3) (s 31) (s 53) w) : Tr (s142_p42_den K s w) :=
  tr_cond (v := ev s (.tmp 53)) (a := (fun s w => s142_p4 K (s 0) (s 3) w) s w) (a' := (s142_p4_den K) s w) (b := (fun s w => s142_p41 K (s 0) (s 3) (s 31) w) s w) (b' := (s142_p41_den K) s w) (p := s142_p42 K (s 0) (s 3) (s 31) (s 53) w) (q := s142_p42_den K s w) ((fun s w h => s142_p4_ok K s w @h) s w) ((fun s w h => s142_p41_ok K s w @h) s w) (by kernel_rfl) (by kernel_rfl) @h
def s142_p43 (K : Value → World → Prop) (t0 t3 t31 : Value) (w : World) : Prop :=
  boI .eql t31 (.int .u8 2) (fun t54 w =>
  ifb t54
  (s142_p42 K t0 t3 t31 t54 w)
  (boI .eql t31 (.int .u8 3) (fun t55 w =>
  ifb t55
  (s142_p42 K t0 t3 t31 t55 w)
  (boI .eql t31 (.int .u8 4) (fun t56 w =>
  ifb t56
  (s142_p42 K t0 t3 t31 t56 w)
  (boI .eql t31 (.int .u8 5) (fun t57 w =>
  ifb t57
  (s142_p42 K t0 t3 t31 t57 w)
  (boI .eql t31 (.int .u8 7) (fun t58 w =>
  ifb t58
  (s142_p42 K t0 t3 t31 t58 w)
  (boI .eql t31 (.int .u8 8) (fun t59 w =>
  s142_p42 K t0 t3 t31 t59 w) w)) w)) w)) w)) w)) w
def s142_p43_den (K : Value → World → Prop) : (Nat → Value) → World → Prop := denL Tryz.prog [(cd (Tryz.f142.body.getD .skip) [1, 1, 1, 1, 0, 1, 0, 1, 1, 1, 1, 0, 0]), (cd (Tryz.f142.body.getD .skip) [1, 1, 1, 1, 0, 1, 0, 1, 1, 1, 1, 0, 1])] (s142_p42_den K) (fun i => (bif Nat.beq i 0 then (s142_p1_den K) else (fun _ _ => False))) (s142_R K)
theorem s142_p43_ok (K : Value → World → Prop) (s : Nat → Value) (w : World) (h : s142_p43 K (s 0) (s 3) (s 31) w) : Tr (s142_p43_den K s w) :=
  tr_simple (P := Tryz.prog) (codes := [(cd (Tryz.f142.body.getD .skip) [1, 1, 1, 1, 0, 1, 0, 1, 1, 1, 1, 0, 0]), (cd (Tryz.f142.body.getD .skip) [1, 1, 1, 1, 0, 1, 0, 1, 1, 1, 1, 0, 1])]) (N := (fun s w => s142_p42 K (s 0) (s 3) (s 31) (s 53) w)) (N' := (s142_p42_den K)) (X := (fun i => (bif Nat.beq i 0 then (fun s w => s142_p1 K (s 0) w) else (fun _ _ => False)))) (X' := (fun i => (bif Nat.beq i 0 then (s142_p1_den K) else (fun _ _ => False)))) (R := s142_R K) (s := s) (w := w) (p := s142_p43 K (s 0) (s 3) (s 31) w) (q := s142_p43_den K s w) (fun s w h => s142_p42_ok K s w @h) (fun i => (tr_bif (fun s w h => s142_p1_ok K s w @h) tr_id)) (by kernel_rfl) (by kernel_rfl) @h
def s142_p44 (K : Value → World → Prop) (t0 t3 t31 t43 : Value) (w : World) : Prop :=
  ifb t43
  (s142_p3 K t0 t3 w)
  (s142_p43 K t0 t3 t31 w)
def s142_p44_den (K : Value → World → Prop) : (Nat → Value) → World → Prop := fun s w => ifb (ev s (.tmp 43)) ((s142_p3_den K) s w) ((s142_p43_den K) s w)
theorem s142_p44_ok (K : Value → World → Prop) (s : Nat → Value) (w : World) (h : s142_p44 K (s 0) (s 3) (s 31) (s 43) w) : Tr (s142_p44_den K s w) :=
  tr_cond (v := ev s (.tmp 43)) (a := (fun s w => s142_p3 K (s 0) (s 3) w) s w) (a' := (s142_p3_den K) s w) (b := (fun s w => s142_p43 K (s 0) (s 3) (s 31) w) s w) (b' := (s142_p43_den K) s w) (p := s142_p44 K (s 0) (s 3) (s 31) (s 43) w) (q := s142_p44_den K s w) ((fun s w h => s142_p3_ok K s w @h) s w) ((fun s w h => s142_p43_ok K s w @h) s w) (by kernel_rfl) (by kernel_rfl) @h
def s142_p45 (K : Value → World → Prop) (t0 t3 t31 : Value) (w : World) : Prop :=
  boI .eql t31 (.int .u8 6) (fun t44 w =>
  s142_p44 K t0 t3 t31 t44 w) w
def s142_p45_den (K : Value → World → Prop) : (Nat → Value) → World → Prop := denL Tryz.prog [(cd (Tryz.f142.body.getD .skip) [1, 1, 1, 1, 0, 1, 0, 1, 1, 0])] (s142_p44_den K) (fun i => (bif Nat.beq i 0 then (s142_p1_den K) else (fun _ _ => False))) (s142_R K)
theorem s142_p45_ok (K : Value → World → Prop) (s : Nat → Value) (w : World) (h : s142_p45 K (s 0) (s 3) (s 31) w) : Tr (s142_p45_den K s w) :=
  tr_simple (P := Tryz.prog) (codes := [(cd (Tryz.f142.body.getD .skip) [1, 1, 1, 1, 0, 1, 0, 1, 1, 0])]) (N := (fun s w => s142_p44 K (s 0) (s 3) (s 31) (s 43) w)) (N' := (s142_p44_den K)) (X := (fun i => (bif Nat.beq i 0 then (fun s w => s142_p1 K (s 0) w) else (fun _ _ => False)))) (X' := (fun i => (bif Nat.beq i 0 then (s142_p1_den K) else (fun _ _ => False)))) (R := s142_R K) (s := s) (w := w) (p := s142_p45 K (s 0) (s 3) (s 31) w) (q := s142_p45_den K s w) (fun s w h => s142_p44_ok K s w @h) (fun i => (tr_bif (fun s w h => s142_p1_ok K s w @h) tr_id)) (by kernel_rfl) (by kernel_rfl) @h
def s142_p46 (K : Value → World → Prop) (t0 t3 t31 t32 : Value) (w : World) : Prop :=
  ifb t32
  (s142_p2 K t0 t3 w)
  (s142_p45 K t0 t3 t31 w)
def s142_p46_den (K : Value → World → Prop) : (Nat → Value) → World → Prop := fun s w => ifb (ev s (.tmp 32)) ((s142_p2_den K) s w) ((s142_p45_den K) s w)
theorem s142_p46_ok (K : Value → World → Prop) (s : Nat → Value) (w : World) (h : s142_p46 K (s 0) (s 3) (s 31) (s 32) w) : Tr (s142_p46_den K s w) :=
  tr_cond (v := ev s (.tmp 32)) (a := (fun s w => s142_p2 K (s 0) (s 3) w) s w) (a' := (s142_p2_den K) s w) (b := (fun s w => s142_p45 K (s 0) (s 3) (s 31) w) s w) (b' := (s142_p45_den K) s w) (p := s142_p46 K (s 0) (s 3) (s 31) (s 32) w) (q := s142_p46_den K s w) ((fun s w h => s142_p2_ok K s w @h) s w) ((fun s w h => s142_p45_ok K s w @h) s w) (by kernel_rfl) (by kernel_rfl) @h
def s142_p47 (K : Value → World → Prop) (t0 t3 t31 : Value) (w : World) : Prop :=
  boI .eql t31 (.int .u8 1) (fun t33 w =>
  ifb t33
  (s142_p46 K t0 t3 t31 t33 w)
  (boI .eql t31 (.int .u8 22) (fun t34 w =>
  s142_p46 K t0 t3 t31 t34 w) w)) w
def s142_p47_den (K : Value → World → Prop) : (Nat → Value) → World → Prop := denL Tryz.prog [(cd (Tryz.f142.body.getD .skip) [1, 1, 1, 1, 0, 1, 0, 0, 0]), (cd (Tryz.f142.body.getD .skip) [1, 1, 1, 1, 0, 1, 0, 0, 1])] (s142_p46_den K) (fun i => (bif Nat.beq i 0 then (s142_p1_den K) else (fun _ _ => False))) (s142_R K)
theorem s142_p47_ok (K : Value → World → Prop) (s : Nat → Value) (w : World) (h : s142_p47 K (s 0) (s 3) (s 31) w) : Tr (s142_p47_den K s w) :=
  tr_simple (P := Tryz.prog) (codes := [(cd (Tryz.f142.body.getD .skip) [1, 1, 1, 1, 0, 1, 0, 0, 0]), (cd (Tryz.f142.body.getD .skip) [1, 1, 1, 1, 0, 1, 0, 0, 1])]) (N := (fun s w => s142_p46 K (s 0) (s 3) (s 31) (s 32) w)) (N' := (s142_p46_den K)) (X := (fun i => (bif Nat.beq i 0 then (fun s w => s142_p1 K (s 0) w) else (fun _ _ => False)))) (X' := (fun i => (bif Nat.beq i 0 then (s142_p1_den K) else (fun _ _ => False)))) (R := s142_R K) (s := s) (w := w) (p := s142_p47 K (s 0) (s 3) (s 31) w) (q := s142_p47_den K s w) (fun s w h => s142_p46_ok K s w @h) (fun i => (tr_bif (fun s w h => s142_p1_ok K s w @h) tr_id)) (by kernel_rfl) (by kernel_rfl) @h
def s142_p48 (K : Value → World → Prop) (t0 t1 : Value) (w : World) : Prop :=
  nw 94 (t1).cells (fun t3 w =>
  fd 0 t3 (fun t16 w =>
  ld1 t16 (fun t17 w =>
  cvi .u8 t17 (fun t18 w =>
  bsq 5 [(.int .u8 0)] 1 [(some (0, 1), t18)] (fun t19 w =>
  apq 5 [(.int .u8 0)] 1 t0 t19 (fun t20 w =>
  fd 0 t3 (fun t21 w =>
  ld1 t21 (fun t22 w =>
  boI .neq t22 (.int .i64 0) (fun t23 w =>
  ifb t23
  (K t20 w)
  (fd 1 t3 (fun t26 w =>
  ld1 t26 (fun t27 w =>
  bsq 5 [(.int .u8 0)] 1 [(some (0, 1), t27)] (fun t28 w =>
  apq 5 [(.int .u8 0)] 1 t20 t28 (fun t29 w =>
  fd 1 t3 (fun t30 w =>
  ld1 t30 (fun t31 w =>
  s142_p47 K t29 t3 t31 w) w) w) w) w) w) w)) w) w) w) w) w) w) w) w) w
def s142_p48_den (K : Value → World → Prop) : (Nat → Value) → World → Prop := denL Tryz.prog [(cd (Tryz.f142.body.getD .skip) [0]), (cd (Tryz.f142.body.getD .skip) [1, 0]), (cd (Tryz.f142.body.getD .skip) [1, 1, 0, 0]), (cd (Tryz.f142.body.getD .skip) [1, 1, 0, 1]), (cd (Tryz.f142.body.getD .skip) [1, 1, 1, 0]), (cd (Tryz.f142.body.getD .skip) [1, 1, 1, 1, 0, 0])] (s142_p47_den K) (fun i => (fun _ _ => False)) (s142_R K)
theorem s142_p48_ok (K : Value → World → Prop) (s : Nat → Value) (w : World) (h : s142_p48 K (s 0) (s 1) w) : Tr (s142_p48_den K s w) :=
  tr_simple (P := Tryz.prog) (codes := [(cd (Tryz.f142.body.getD .skip) [0]), (cd (Tryz.f142.body.getD .skip) [1, 0]), (cd (Tryz.f142.body.getD .skip) [1, 1, 0, 0]), (cd (Tryz.f142.body.getD .skip) [1, 1, 0, 1]), (cd (Tryz.f142.body.getD .skip) [1, 1, 1, 0]), (cd (Tryz.f142.body.getD .skip) [1, 1, 1, 1, 0, 0])]) (N := (fun s w => s142_p47 K (s 0) (s 3) (s 31) w)) (N' := (s142_p47_den K)) (X := (fun i => (fun _ _ => False))) (X' := (fun i => (fun _ _ => False))) (R := s142_R K) (s := s) (w := w) (p := s142_p48 K (s 0) (s 1) w) (q := s142_p48_den K s w) (fun s w h => s142_p47_ok K s w @h) (fun i => tr_id) (by kernel_rfl) (by kernel_rfl) @h
/-- the call, from the text -/
theorem c142 (t0 t1 : Value) {K : Value → World → Prop} {w : World} (h : s142_p48 K t0 t1 w) : cl Tryz.prog 142 #[t0, t1] K w :=
  calls_of_tr (c := (Tryz.f142.body.getD .skip)) (fn := Tryz.f142) (q := s142_p48_den K (st0 #[t0, t1]) w) Tryz.func142 (by kernel_rfl) (by kernel_rfl) (Nat.le_of_ble_eq_true (by kernel_rfl)) (by kernel_rfl) (by kernel_rfl) (s142_p48_ok K (st0 #[t0, t1]) w @h)

/-! ### function 59 : e2e.engine.EncodeReply -/
def s59_R (K : Value → World → Prop) (s : Nat → Value) (w : World) : Prop := retv Tryz.prog s Tryz.f59.results.toList (fun vs => K (pack vs) w) w
def s59_p1 (K : Value → World → Prop) (t0 : Value) (w : World) : Prop :=
  nw 94 (t0).cells (fun t1 w =>
  ldn 34 t1 (fun t3 w =>
  cl Tryz.prog 142 #[(.slice none 0 0), t3] (fun t4 w =>
  K t4 w) w) w) w
def s59_p1_den (K : Value → World → Prop) : (Nat → Value) → World → Prop := denL Tryz.prog [(cd (Tryz.f59.body.getD .skip) [0]), (cd (Tryz.f59.body.getD .skip) [1, 0]), (cd (Tryz.f59.body.getD .skip) [1, 1])] (fun _ _ => False) (fun i => (fun _ _ => False)) (s59_R K)
theorem s59_p1_ok (K : Value → World → Prop) (s : Nat → Value) (w : World) (h : s59_p1 K (s 0) w) : Tr (s59_p1_den K s w) :=
  tr_simple (P := Tryz.prog) (codes := [(cd (Tryz.f59.body.getD .skip) [0]), (cd (Tryz.f59.body.getD .skip) [1, 0]), (cd (Tryz.f59.body.getD .skip) [1, 1])]) (N := (fun _ _ => False)) (N' := (fun _ _ => False)) (X := (fun i => (fun _ _ => False))) (X' := (fun i => (fun _ _ => False))) (R := s59_R K) (s := s) (w := w) (p := s59_p1 K (s 0) w) (q := s59_p1_den K s w) tr_id (fun i => tr_id) (by kernel_rfl) (by kernel_rfl) @h
/-- the call, from the text -/
theorem c59 (t0 : Value) {K : Value → World → Prop} {w : World} (h : s59_p1 K t0 w) : cl Tryz.prog 59 #[t0] K w :=
  calls_of_tr (c := (Tryz.f59.body.getD .skip)) (fn := Tryz.f59) (q := s59_p1_den K (st0 #[t0]) w) Tryz.func59 (by kernel_rfl) (by kernel_rfl) (Nat.le_of_ble_eq_true (by kernel_rfl)) (by kernel_rfl) (by kernel_rfl) (s59_p1_ok K (st0 #[t0]) w @h)

/-! ### function 45 : e2e.engine.DecodeReply -/
def s45_R (K : Value → World → Prop) (s : Nat → Value) (w : World) : Prop := retv Tryz.prog s Tryz.f45.results.toList (fun vs => K (pack vs) w) w
def s45_p1 (K : Value → World → Prop) (t2 t4 t5 : Value) (w : World) : Prop :=
  cl Tryz.prog 108 #[t4] (fun t122 w =>
  un .not t122 (fun t123 w =>
  ifb t123
  (bdq [(.int .i64 0), (.int .u8 0), (.int .i64 0), (.int .i64 0), (.int .i64 0), (.int .i64 0), (.int .i64 0), (.slice none 0 0), (.int .i64 0), (.int .i64 0), (.int .i64 0), (.slice none 0 0), (.int .i64 0), (.int .i64 0), (.int .i64 0), (.int .i64 0), (.int .i64 0), (.int .i64 0), (.slice none 0 0), (.int .i64 0), (.int .i64 0), (.int .i64 0), (.int .i64 0), (.int .i64 0), (.int .i64 0), (.int .i64 0), (.int .i64 0), (.int .i64 0), (.int .i64 0), (.int .i64 0), (.int .i64 0), (.int .i64 0), (.int .i64 0), (.int .i64 0)] [] (fun t124 w =>
  stn 34 t2 t124 (fun w =>
  ldn 34 t2 (fun r0 _ =>
  K (.tuple #[r0, (.bool false)]) w) w) w) w)
  (ldn 34 t5 (fun t125 w =>
  stn 34 t2 t125 (fun w =>
  ldn 34 t2 (fun r0 _ =>
  K (.tuple #[r0, (.bool true)]) w) w) w) w)) w) w
def s45_p1_den (K : Value → World → Prop) : (Nat → Value) → World → Prop := denL Tryz.prog [(cd (Tryz.f45.body.getD .skip) [1, 1, 1, 1, 1, 1, 1, 0, 0]), (cd (Tryz.f45.body.getD .skip) [1, 1, 1, 1, 1, 1, 1, 0, 1]), (cd (Tryz.f45.body.getD .skip) [1, 1, 1, 1, 1, 1, 1, 1, 0]), (cd (Tryz.f45.body.getD .skip) [1, 1, 1, 1, 1, 1, 1, 1, 1])] (fun _ _ => False) (fun i => (fun _ _ => False)) (s45_R K)
theorem s45_p1_ok (K : Value → World → Prop) (s : Nat → Value) (w : World) (h : s45_p1 K (s 2) (s 4) (s 5) w) : Tr (s45_p1_den K s w) :=
  tr_simple (P := Tryz.prog) (codes := [(cd (Tryz.f45.body.getD .skip) [1, 1, 1, 1, 1, 1, 1, 0, 0]), (cd (Tryz.f45.body.getD .skip) [1, 1, 1, 1, 1, 1, 1, 0, 1]), (cd (Tryz.f45.body.getD .skip) [1, 1, 1, 1, 1, 1, 1, 1, 0]), (cd (Tryz.f45.body.getD .skip) [1, 1, 1, 1, 1, 1, 1, 1, 1])]) (N := (fun _ _ => False)) (N' := (fun _ _ => False)) (X := (fun i => (fun _ _ => False))) (X' := (fun i => (fun _ _ => False))) (R := s45_R K) (s := s) (w := w) (p := s45_p1 K (s 2) (s 4) (s 5) w) (q := s45_p1_den K s w) tr_id (fun i => tr_id) (by kernel_rfl) (by kernel_rfl) @h
def s45_p2 (K : Value → World → Prop) (t2 t4 t5 : Value) (w : World) : Prop :=
  cl Tryz.prog 105 #[t4] (fun t32 w =>
  fd 2 t5 (fun t33 w =>
  st1 t33 t32 (fun w =>
  cl Tryz.prog 105 #[t4] (fun t34 w =>
  fd 3 t5 (fun t35 w =>
  st1 t35 t34 (fun w =>
  s45_p1 K t2 t4 t5 w) w) w) w) w) w) w
def s45_p2_den (K : Value → World → Prop) : (Nat → Value) → World → Prop := denL Tryz.prog [(cd (Tryz.f45.body.getD .skip) [1, 1, 1, 1, 1, 1, 0, 1, 0, 1, 0, 0]), (cd (Tryz.f45.body.getD .skip) [1, 1, 1, 1, 1, 1, 0, 1, 0, 1, 0, 1])] (s45_p1_den K) (fun i => (bif Nat.beq i 0 then (s45_p1_den K) else (fun _ _ => False))) (s45_R K)
theorem s45_p2_ok (K : Value → World → Prop) (s : Nat → Value) (w : World) (h : s45_p2 K (s 2) (s 4) (s 5) w) : Tr (s45_p2_den K s w) :=
  tr_simple (P := Tryz.prog) (codes := [(cd (Tryz.f45.body.getD .skip) [1, 1, 1, 1, 1, 1, 0, 1, 0, 1, 0, 0]), (cd (Tryz.f45.body.getD .skip) [1, 1, 1, 1, 1, 1, 0, 1, 0, 1, 0, 1])]) (N := (fun s w => s45_p1 K (s 2) (s 4) (s 5) w)) (N' := (s45_p1_den K)) (X := (fun i => (bif Nat.beq i 0 then (fun s w => s45_p1 K (s 2) (s 4) (s 5) w) else (fun _ _ => False)))) (X' := (fun i => (bif Nat.beq i 0 then (s45_p1_den K) else (fun _ _ => False)))) (R := s45_R K) (s := s) (w := w) (p := s45_p2 K (s 2) (s 4) (s 5) w) (q := s45_p2_den K s w) (fun s w h => s45_p1_ok K s w @h) (fun i => (tr_bif (fun s w h => s45_p1_ok K s w @h) tr_id)) (by kernel_rfl) (by kernel_rfl) @h
def s45_p3 (K : Value → World → Prop) (t2 t4 t5 : Value) (w : World) : Prop :=
  cl Tryz.prog 105 #[t4] (fun t38 w =>
  fd 2 t5 (fun t39 w =>
  st1 t39 t38 (fun w =>
  cl Tryz.prog 105 #[t4] (fun t40 w =>
  fd 4 t5 (fun t41 w =>
  st1 t41 t40 (fun w =>
  s45_p1 K t2 t4 t5 w) w) w) w) w) w) w
def s45_p3_den (K : Value → World → Prop) : (Nat → Value) → World → Prop := denL Tryz.prog [(cd (Tryz.f45.body.getD .skip) [1, 1, 1, 1, 1, 1, 0, 1, 0, 1, 1, 1, 0, 0]), (cd (Tryz.f45.body.getD .skip) [1, 1, 1, 1, 1, 1, 0, 1, 0, 1, 1, 1, 0, 1])] (s45_p1_den K) (fun i => (bif Nat.beq i 0 then (s45_p1_den K) else (fun _ _ => False))) (s45_R K)
theorem s45_p3_ok (K : Value → World → Prop) (s : Nat → Value) (w : World) (h : s45_p3 K (s 2) (s 4) (s 5) w) : Tr (s45_p3_den K s w) :=
  tr_simple (P := Tryz.prog) (codes := [(cd (Tryz.f45.body.getD .skip) [1, 1, 1, 1, 1, 1, 0, 1, 0, 1, 1, 1, 0, 0]), (cd (Tryz.f45.body.getD .skip) [1, 1, 1, 1, 1, 1, 0, 1, 0, 1, 1, 1, 0, 1])]) (N := (fun s w => s45_p1 K (s 2) (s 4) (s 5) w)) (N' := (s45_p1_den K)) (X := (fun i => (bif Nat.beq i 0 then (fun s w => s45_p1 K (s 2) (s 4) (s 5) w) else (fun _ _ => False)))) (X' := (fun i => (bif Nat.beq i 0 then (s45_p1_den K) else (fun _ _ => False)))) (R := s45_R K) (s := s) (w := w) (p := s45_p3 K (s 2) (s 4) (s 5) w) (q := s45_p3_den K s w) (fun s w h => s45_p1_ok K s w @h) (fun i => (tr_bif (fun s w h => s45_p1_ok K s w @h) tr_id)) (by kernel_rfl) (by kernel_rfl) @h
def s45_p4 (K : Value → World → Prop) (t2 t4 t5 : Value) (w : World) : Prop :=
  cl Tryz.prog 131 #[t4, (.int .i64 9)] (fun t49 w =>
  fd 5 t5 (fun t50 w =>
  st1 t50 t49 (fun w =>
  s45_p1 K t2 t4 t5 w) w) w) w
def s45_p4_den (K : Value → World → Prop) : (Nat → Value) → World → Prop := denL Tryz.prog [(cd (Tryz.f45.body.getD .skip) [1, 1, 1, 1, 1, 1, 0, 1, 0, 1, 1, 1, 1, 1, 0])] (s45_p1_den K) (fun i => (bif Nat.beq i 0 then (s45_p1_den K) else (fun _ _ => False))) (s45_R K)
theorem s45_p4_ok (K : Value → World → Prop) (s : Nat → Value) (w : World) (h : s45_p4 K (s 2) (s 4) (s 5) w) : Tr (s45_p4_den K s w) :=
  tr_simple (P := Tryz.prog) (codes := [(cd (Tryz.f45.body.getD .skip) [1, 1, 1, 1, 1, 1, 0, 1, 0, 1, 1, 1, 1, 1, 0])]) (N := (fun s w => s45_p1 K (s 2) (s 4) (s 5) w)) (N' := (s45_p1_den K)) (X := (fun i => (bif Nat.beq i 0 then (fun s w => s45_p1 K (s 2) (s 4) (s 5) w) else (fun _ _ => False)))) (X' := (fun i => (bif Nat.beq i 0 then (s45_p1_den K) else (fun _ _ => False)))) (R := s45_R K) (s := s) (w := w) (p := s45_p4 K (s 2) (s 4) (s 5) w) (q := s45_p4_den K s w) (fun s w h => s45_p1_ok K s w @h) (fun i => (tr_bif (fun s w h => s45_p1_ok K s w @h) tr_id)) (by kernel_rfl) (by kernel_rfl) @h
def s45_p5 (K : Value → World → Prop) (t2 t4 t5 : Value) (w : World) : Prop :=
  cl Tryz.prog 105 #[t4] (fun t53 w =>
  fd 6 t5 (fun t54 w =>
  st1 t54 t53 (fun w =>
  cl Tryz.prog 132 #[t4] (fun t55 w =>
  fd 7 t5 (fun t56 w =>
  st1 t56 t55 (fun w =>
  cl Tryz.prog 105 #[t4] (fun t57 w =>
  fd 8 t5 (fun t58 w =>
  st1 t58 t57 (fun w =>
  cl Tryz.prog 105 #[t4] (fun t59 w =>
  fd 9 t5 (fun t60 w =>
  st1 t60 t59 (fun w =>
  cl Tryz.prog 105 #[t4] (fun t61 w =>
  fd 10 t5 (fun t62 w =>
  st1 t62 t61 (fun w =>
  s45_p1 K t2 t4 t5 w) w) w) w) w) w) w) w) w) w) w) w) w) w) w) w
def s45_p5_den (K : Value → World → Prop) : (Nat → Value) → World → Prop := denL Tryz.prog [(cd (Tryz.f45.body.getD .skip) [1, 1, 1, 1, 1, 1, 0, 1, 0, 1, 1, 1, 1, 1, 1, 1, 0, 0]), (cd (Tryz.f45.body.getD .skip) [1, 1, 1, 1, 1, 1, 0, 1, 0, 1, 1, 1, 1, 1, 1, 1, 0, 1, 0]), (cd (Tryz.f45.body.getD .skip) [1, 1, 1, 1, 1, 1, 0, 1, 0, 1, 1, 1, 1, 1, 1, 1, 0, 1, 1, 0]), (cd (Tryz.f45.body.getD .skip) [1, 1, 1, 1, 1, 1, 0, 1, 0, 1, 1, 1, 1, 1, 1, 1, 0, 1, 1, 1, 0]), (cd (Tryz.f45.body.getD .skip) [1, 1, 1, 1, 1, 1, 0, 1, 0, 1, 1, 1, 1, 1, 1, 1, 0, 1, 1, 1, 1])] (s45_p1_den K) (fun i => (bif Nat.beq i 0 then (s45_p1_den K) else (fun _ _ => False))) (s45_R K)
theorem s45_p5_ok (K : Value → World → Prop) (s : Nat → Value) (w : World) (h : s45_p5 K (s 2) (s 4) (s 5) w) : Tr (s45_p5_den K s w) :=
  tr_simple (P := Tryz.prog) (codes := [(cd (Tryz.f45.body.getD .skip) [1, 1, 1, 1, 1, 1, 0, 1, 0, 1, 1, 1, 1, 1, 1, 1, 0, 0]), (cd (Tryz.f45.body.getD .skip) [1, 1, 1, 1, 1, 1, 0, 1, 0, 1, 1, 1, 1, 1, 1, 1, 0, 1, 0]), (cd (Tryz.f45.body.getD .skip) [1, 1, 1, 1, 1, 1, 0, 1, 0, 1, 1, 1, 1, 1, 1, 1, 0, 1, 1, 0]), (cd (Tryz.f45.body.getD .skip) [1, 1, 1, 1, 1, 1, 0, 1, 0, 1, 1, 1, 1, 1, 1, 1, 0, 1, 1, 1, 0]), (cd (Tryz.f45.body.getD .skip) [1, 1, 1, 1, 1, 1, 0, 1, 0, 1, 1, 1, 1, 1, 1, 1, 0, 1, 1, 1, 1])]) (N := (fun s w => s45_p1 K (s 2) (s 4) (s 5) w)) (N' := (s45_p1_den K)) (X := (fun i => (bif Nat.beq i 0 then (fun s w => s45_p1 K (s 2) (s 4) (s 5) w) else (fun _ _ => False)))) (X' := (fun i => (bif Nat.beq i 0 then (s45_p1_den K) else (fun _ _ => False)))) (R := s45_R K) (s := s) (w := w) (p := s45_p5 K (s 2) (s 4) (s 5) w) (q := s45_p5_den K s w) (fun s w h => s45_p1_ok K s w @h) (fun i => (tr_bif (fun s w h => s45_p1_ok K s w @h) tr_id)) (by kernel_rfl) (by kernel_rfl) @h
def s45_p6 (K : Value → World → Prop) (t2 t4 t5 : Value) (w : World) : Prop :=
  cl Tryz.prog 133 #[t4] (fun t65 w =>
  bsq 85 [(.int .i64 0), (.int .i64 0), (.int .i64 0), (.int .i64 0), (.int .i64 0), (.int .i64 0), (.slice none 0 0)] 1 [(some (0, 7), t65)] (fun t66 w =>
  fd 11 t5 (fun t67 w =>
  st1 t67 t66 (fun w =>
  s45_p1 K t2 t4 t5 w) w) w) w) w
def s45_p6_den (K : Value → World → Prop) : (Nat → Value) → World → Prop := denL Tryz.prog [(cd (Tryz.f45.body.getD .skip) [1, 1, 1, 1, 1, 1, 0, 1, 0, 1, 1, 1, 1, 1, 1, 1, 1, 1, 0])] (s45_p1_den K) (fun i => (bif Nat.beq i 0 then (s45_p1_den K) else (fun _ _ => False))) (s45_R K)
theorem s45_p6_ok (K : Value → World → Prop) (s : Nat → Value) (w : World) (h : s45_p6 K (s 2) (s 4) (s 5) w) : Tr (s45_p6_den K s w) :=
  tr_simple (P := Tryz.prog) (codes := [(cd (Tryz.f45.body.getD .skip) [1, 1, 1, 1, 1, 1, 0, 1, 0, 1, 1, 1, 1, 1, 1, 1, 1, 1, 0])]) (N := (fun s w => s45_p1 K (s 2) (s 4) (s 5) w)) (N' := (s45_p1_den K)) (X := (fun i => (bif Nat.beq i 0 then (fun s w => s45_p1 K (s 2) (s 4) (s 5) w) else (fun _ _ => False)))) (X' := (fun i => (bif Nat.beq i 0 then (s45_p1_den K) else (fun _ _ => False)))) (R := s45_R K) (s := s) (w := w) (p := s45_p6 K (s 2) (s 4) (s 5) w) (q := s45_p6_den K s w) (fun s w h => s45_p1_ok K s w @h) (fun i => (tr_bif (fun s w h => s45_p1_ok K s w @h) tr_id)) (by kernel_rfl) (by kernel_rfl) @h
def s45_p7 (K : Value → World → Prop) (t2 t4 t5 : Value) (w : World) : Prop :=
  cl Tryz.prog 105 #[t4] (fun t70 w =>
  fd 12 t5 (fun t71 w =>
  st1 t71 t70 (fun w =>
  cl Tryz.prog 134 #[t4] (fun t72 w =>
  fd 11 t5 (fun t73 w =>
  st1 t73 t72 (fun w =>
  s45_p1 K t2 t4 t5 w) w) w) w) w) w) w
def s45_p7_den (K : Value → World → Prop) : (Nat → Value) → World → Prop := denL Tryz.prog [(cd (Tryz.f45.body.getD .skip) [1, 1, 1, 1, 1, 1, 0, 1, 0, 1, 1, 1, 1, 1, 1, 1, 1, 1, 1, 1, 0, 0]), (cd (Tryz.f45.body.getD .skip) [1, 1, 1, 1, 1, 1, 0, 1, 0, 1, 1, 1, 1, 1, 1, 1, 1, 1, 1, 1, 0, 1])] (s45_p1_den K) (fun i => (bif Nat.beq i 0 then (s45_p1_den K) else (fun _ _ => False))) (s45_R K)
theorem s45_p7_ok (K : Value → World → Prop) (s : Nat → Value) (w : World) (h : s45_p7 K (s 2) (s 4) (s 5) w) : Tr (s45_p7_den K s w) :=
  tr_simple (P := Tryz.prog) (codes := [(cd (Tryz.f45.body.getD .skip) [1, 1, 1, 1, 1, 1, 0, 1, 0, 1, 1, 1, 1, 1, 1, 1, 1, 1, 1, 1, 0, 0]), (cd (Tryz.f45.body.getD .skip) [1, 1, 1, 1, 1, 1, 0, 1, 0, 1, 1, 1, 1, 1, 1, 1, 1, 1, 1, 1, 0, 1])]) (N := (fun s w => s45_p1 K (s 2) (s 4) (s 5) w)) (N' := (s45_p1_den K)) (X := (fun i => (bif Nat.beq i 0 then (fun s w => s45_p1 K (s 2) (s 4) (s 5) w) else (fun _ _ => False)))) (X' := (fun i => (bif Nat.beq i 0 then (s45_p1_den K) else (fun _ _ => False)))) (R := s45_R K) (s := s) (w := w) (p := s45_p7 K (s 2) (s 4) (s 5) w) (q := s45_p7_den K s w) (fun s w h => s45_p1_ok K s w @h) (fun i => (tr_bif (fun s w h => s45_p1_ok K s w @h) tr_id)) (by kernel_rfl) (by kernel_rfl) @h
def s45_p8 (K : Value → World → Prop) (t2 t4 t5 : Value) (w : World) : Prop :=
  cl Tryz.prog 105 #[t4] (fun t86 w =>
  fd 17 t5 (fun t87 w =>
  st1 t87 t86 (fun w =>
  s45_p1 K t2 t4 t5 w) w) w) w
def s45_p8_den (K : Value → World → Prop) : (Nat → Value) → World → Prop := denL Tryz.prog [(cd (Tryz.f45.body.getD .skip) [1, 1, 1, 1, 1, 1, 0, 1, 0, 1, 1, 1, 1, 1, 1, 1, 1, 1, 1, 1, 1, 1, 0, 1, 1])] (s45_p1_den K) (fun i => (bif Nat.beq i 0 then (s45_p1_den K) else (fun _ _ => False))) (s45_R K)
theorem s45_p8_ok (K : Value → World → Prop) (s : Nat → Value) (w : World) (h : s45_p8 K (s 2) (s 4) (s 5) w) : Tr (s45_p8_den K s w) :=
  tr_simple (P := Tryz.prog) (codes := [(cd (Tryz.f45.body.getD .skip) [1, 1, 1, 1, 1, 1, 0, 1, 0, 1, 1, 1, 1, 1, 1, 1, 1, 1, 1, 1, 1, 1, 0, 1, 1])]) (N := (fun s w => s45_p1 K (s 2) (s 4) (s 5) w)) (N' := (s45_p1_den K)) (X := (fun i => (bif Nat.beq i 0 then (fun s w => s45_p1 K (s 2) (s 4) (s 5) w) else (fun _ _ => False)))) (X' := (fun i => (bif Nat.beq i 0 then (s45_p1_den K) else (fun _ _ => False)))) (R := s45_R K) (s := s) (w := w) (p := s45_p8 K (s 2) (s 4) (s 5) w) (q := s45_p8_den K s w) (fun s w h => s45_p1_ok K s w @h) (fun i => (tr_bif (fun s w h => s45_p1_ok K s w @h) tr_id)) (by kernel_rfl) (by kernel_rfl) @h
def s45_p9 (K : Value → World → Prop) (B1 : List Value → World → Prop) (t2 t4 t5 t78 : Value) (w : World) : Prop :=
  boI .lss t78 (.int .i64 3) (fun t79 w =>
  ifb t79
  (cl Tryz.prog 105 #[t4] (fun t82 w =>
  fd 14 t5 (fun t83 w =>
  ixa 3 1 t83 t78 (fun t84 w =>
  st1 t84 t82 (fun w =>
  boI .add t78 (.int .i64 1) (fun t85 w =>
  B1 [t2, t4, t5, t85] w) w) w) w) w) w)
  (s45_p8 K t2 t4 t5 w)) w
def s45_p9_den (K : Value → World → Prop) (M1 : (Nat → Value) → World → Prop) : (Nat → Value) → World → Prop := denL Tryz.prog [(cd (Tryz.f45.body.getD .skip) [1, 1, 1, 1, 1, 1, 0, 1, 0, 1, 1, 1, 1, 1, 1, 1, 1, 1, 1, 1, 1, 1, 0, 1, 0, 1, 0, 0, 0]), (cd (Tryz.f45.body.getD .skip) [1, 1, 1, 1, 1, 1, 0, 1, 0, 1, 1, 1, 1, 1, 1, 1, 1, 1, 1, 1, 1, 1, 0, 1, 0, 1, 0, 0, 1, 0]), (cd (Tryz.f45.body.getD .skip) [1, 1, 1, 1, 1, 1, 0, 1, 0, 1, 1, 1, 1, 1, 1, 1, 1, 1, 1, 1, 1, 1, 0, 1, 0, 1, 0, 0, 1, 1, 0]), (cd (Tryz.f45.body.getD .skip) [1, 1, 1, 1, 1, 1, 0, 1, 0, 1, 1, 1, 1, 1, 1, 1, 1, 1, 1, 1, 1, 1, 0, 1, 0, 1, 0, 0, 1, 1, 1])] M1 (fun i => (bif Nat.beq i 1 then (s45_p8_den K) else (bif Nat.beq i 0 then (s45_p1_den K) else (fun _ _ => False)))) (s45_R K)
theorem s45_p9_ok (K : Value → World → Prop) (B1 : List Value → World → Prop) (s : Nat → Value) (w : World) (h : s45_p9 K B1 (s 2) (s 4) (s 5) (s 78) w) : Tr (s45_p9_den K (fun s w => B1 [s 2, s 4, s 5, s 78] w) s w) :=
  tr_simple (P := Tryz.prog) (codes := [(cd (Tryz.f45.body.getD .skip) [1, 1, 1, 1, 1, 1, 0, 1, 0, 1, 1, 1, 1, 1, 1, 1, 1, 1, 1, 1, 1, 1, 0, 1, 0, 1, 0, 0, 0]), (cd (Tryz.f45.body.getD .skip) [1, 1, 1, 1, 1, 1, 0, 1, 0, 1, 1, 1, 1, 1, 1, 1, 1, 1, 1, 1, 1, 1, 0, 1, 0, 1, 0, 0, 1, 0]), (cd (Tryz.f45.body.getD .skip) [1, 1, 1, 1, 1, 1, 0, 1, 0, 1, 1, 1, 1, 1, 1, 1, 1, 1, 1, 1, 1, 1, 0, 1, 0, 1, 0, 0, 1, 1, 0]), (cd (Tryz.f45.body.getD .skip) [1, 1, 1, 1, 1, 1, 0, 1, 0, 1, 1, 1, 1, 1, 1, 1, 1, 1, 1, 1, 1, 1, 0, 1, 0, 1, 0, 0, 1, 1, 1])]) (N := (fun s w => B1 [s 2, s 4, s 5, s 78] w)) (N' := (fun s w => B1 [s 2, s 4, s 5, s 78] w)) (X := (fun i => (bif Nat.beq i 1 then (fun s w => s45_p8 K (s 2) (s 4) (s 5) w) else (bif Nat.beq i 0 then (fun s w => s45_p1 K (s 2) (s 4) (s 5) w) else (fun _ _ => False))))) (X' := (fun i => (bif Nat.beq i 1 then (s45_p8_den K) else (bif Nat.beq i 0 then (s45_p1_den K) else (fun _ _ => False))))) (R := s45_R K) (s := s) (w := w) (p := s45_p9 K B1 (s 2) (s 4) (s 5) (s 78) w) (q := s45_p9_den K (fun s w => B1 [s 2, s 4, s 5, s 78] w) s w) tr_id (fun i => (tr_bif (fun s w h => s45_p8_ok K s w @h) (tr_bif (fun s w h => s45_p1_ok K s w @h) tr_id))) (by kernel_rfl) (by kernel_rfl) @h
def s45_p10_F (K : Value → World → Prop) (B1 : List Value → World → Prop) (l : List Value) (w : World) : Prop :=
  match l with
  | [t2, t4, t5, t78] => s45_p9 K B1 t2 t4 t5 t78 w
  | _ => False
theorem s45_p10_Fe {K : Value → World → Prop} {B1 : List Value → World → Prop} {t2 t4 t5 t78 : Value} {w : World} : s45_p10_F K B1 [t2, t4, t5, t78] w = s45_p9 K B1 t2 t4 t5 t78 w := by kernel_rfl
def s45_p10 (K : Value → World → Prop) (t2 t4 t5 t78 : Value) (w : World) : Prop :=
  LoopL (s45_p10_F K) [t2, t4, t5, t78] w
def s45_p10_den (K : Value → World → Prop) : (Nat → Value) → World → Prop := fun s w => LoopP (fun M1 s w => s45_p9_den K M1 s w) s w
theorem s45_p10_ok (K : Value → World → Prop) (s : Nat → Value) (w : World) (h : s45_p10 K (s 2) (s 4) (s 5) (s 78) w) : Tr (s45_p10_den K s w) :=
  tr_loop (G := fun N' s w => s45_p9_den K N' s w) (F := s45_p10_F K) (sel := fun s => [s 2, s 4, s 5, s 78]) (s := s) (w := w) (p := s45_p10 K (s 2) (s 4) (s 5) (s 78) w) (q := s45_p10_den K s w) (fun B s w h => s45_p9_ok K B s w @h) (by kernel_rfl) (by kernel_rfl) @h
def s45_p11 (K : Value → World → Prop) (t2 t4 t5 : Value) (w : World) : Prop :=
  cl Tryz.prog 105 #[t4] (fun t76 w =>
  fd 13 t5 (fun t77 w =>
  st1 t77 t76 (fun w =>
  s45_p10 K t2 t4 t5 (.int .i64 0) w) w) w) w
def s45_p11_den (K : Value → World → Prop) : (Nat → Value) → World → Prop := denL Tryz.prog [(cd (Tryz.f45.body.getD .skip) [1, 1, 1, 1, 1, 1, 0, 1, 0, 1, 1, 1, 1, 1, 1, 1, 1, 1, 1, 1, 1, 1, 0, 0]), (cd (Tryz.f45.body.getD .skip) [1, 1, 1, 1, 1, 1, 0, 1, 0, 1, 1, 1, 1, 1, 1, 1, 1, 1, 1, 1, 1, 1, 0, 1, 0, 0])] (s45_p10_den K) (fun i => (bif Nat.beq i 0 then (s45_p1_den K) else (fun _ _ => False))) (s45_R K)
theorem s45_p11_ok (K : Value → World → Prop) (s : Nat → Value) (w : World) (h : s45_p11 K (s 2) (s 4) (s 5) w) : Tr (s45_p11_den K s w) :=
  tr_simple (P := Tryz.prog) (codes := [(cd (Tryz.f45.body.getD .skip) [1, 1, 1, 1, 1, 1, 0, 1, 0, 1, 1, 1, 1, 1, 1, 1, 1, 1, 1, 1, 1, 1, 0, 0]), (cd (Tryz.f45.body.getD .skip) [1, 1, 1, 1, 1, 1, 0, 1, 0, 1, 1, 1, 1, 1, 1, 1, 1, 1, 1, 1, 1, 1, 0, 1, 0, 0])]) (N := (fun s w => s45_p10 K (s 2) (s 4) (s 5) (s 78) w)) (N' := (s45_p10_den K)) (X := (fun i => (bif Nat.beq i 0 then (fun s w => s45_p1 K (s 2) (s 4) (s 5) w) else (fun _ _ => False)))) (X' := (fun i => (bif Nat.beq i 0 then (s45_p1_den K) else (fun _ _ => False)))) (R := s45_R K) (s := s) (w := w) (p := s45_p11 K (s 2) (s 4) (s 5) w) (q := s45_p11_den K s w) (fun s w h => s45_p10_ok K s w @h) (fun i => (tr_bif (fun s w h => s45_p1_ok K s w @h) tr_id)) (by kernel_rfl) (by kernel_rfl) @h
def s45_p12 (K : Value → World → Prop) (t2 t4 t5 : Value) (w : World) : Prop :=
  cl Tryz.prog 135 #[t4] (fun t90 w =>
  fd 18 t5 (fun t91 w =>
  st1 t91 t90 (fun w =>
  s45_p1 K t2 t4 t5 w) w) w) w
def s45_p12_den (K : Value → World → Prop) : (Nat → Value) → World → Prop := denL Tryz.prog [(cd (Tryz.f45.body.getD .skip) [1, 1, 1, 1, 1, 1, 0, 1, 0, 1, 1, 1, 1, 1, 1, 1, 1, 1, 1, 1, 1, 1, 1, 1, 0])] (s45_p1_den K) (fun i => (bif Nat.beq i 0 then (s45_p1_den K) else (fun _ _ => False))) (s45_R K)
theorem s45_p12_ok (K : Value → World → Prop) (s : Nat → Value) (w : World) (h : s45_p12 K (s 2) (s 4) (s 5) w) : Tr (s45_p12_den K s w) :=
  tr_simple (P := Tryz.prog) (codes := [(cd (Tryz.f45.body.getD .skip) [1, 1, 1, 1, 1, 1, 0, 1, 0, 1, 1, 1, 1, 1, 1, 1, 1, 1, 1, 1, 1, 1, 1, 1, 0])]) (N := (fun s w => s45_p1 K (s 2) (s 4) (s 5) w)) (N' := (s45_p1_den K)) (X := (fun i => (bif Nat.beq i 0 then (fun s w => s45_p1 K (s 2) (s 4) (s 5) w) else (fun _ _ => False)))) (X' := (fun i => (bif Nat.beq i 0 then (s45_p1_den K) else (fun _ _ => False)))) (R := s45_R K) (s := s) (w := w) (p := s45_p12 K (s 2) (s 4) (s 5) w) (q := s45_p12_den K s w) (fun s w h => s45_p1_ok K s w @h) (fun i => (tr_bif (fun s w h => s45_p1_ok K s w @h) tr_id)) (by kernel_rfl) (by kernel_rfl) @h
def s45_p13 (K : Value → World → Prop) (t2 t4 t5 : Value) (w : World) : Prop :=
  cl Tryz.prog 105 #[t4] (fun t94 w =>
  fd 6 t5 (fun t95 w =>
  st1 t95 t94 (fun w =>
  cl Tryz.prog 105 #[t4] (fun t96 w =>
  fd 19 t5 (fun t97 w =>
  st1 t97 t96 (fun w =>
  cl Tryz.prog 105 #[t4] (fun t98 w =>
  fd 20 t5 (fun t99 w =>
  st1 t99 t98 (fun w =>
  s45_p1 K t2 t4 t5 w) w) w) w) w) w) w) w) w) w
def s45_p13_den (K : Value → World → Prop) : (Nat → Value) → World → Prop := denL Tryz.prog [(cd (Tryz.f45.body.getD .skip) [1, 1, 1, 1, 1, 1, 0, 1, 0, 1, 1, 1, 1, 1, 1, 1, 1, 1, 1, 1, 1, 1, 1, 1, 1, 1, 0, 0]), (cd (Tryz.f45.body.getD .skip) [1, 1, 1, 1, 1, 1, 0, 1, 0, 1, 1, 1, 1, 1, 1, 1, 1, 1, 1, 1, 1, 1, 1, 1, 1, 1, 0, 1, 0]), (cd (Tryz.f45.body.getD .skip) [1, 1, 1, 1, 1, 1, 0, 1, 0, 1, 1, 1, 1, 1, 1, 1, 1, 1, 1, 1, 1, 1, 1, 1, 1, 1, 0, 1, 1])] (s45_p1_den K) (fun i => (bif Nat.beq i 0 then (s45_p1_den K) else (fun _ _ => False))) (s45_R K)
theorem s45_p13_ok (K : Value → World → Prop) (s : Nat → Value) (w : World) (h : s45_p13 K (s 2) (s 4) (s 5) w) : Tr (s45_p13_den K s w) :=
  tr_simple (P := Tryz.prog) (codes := [(cd (Tryz.f45.body.getD .skip) [1, 1, 1, 1, 1, 1, 0, 1, 0, 1, 1, 1, 1, 1, 1, 1, 1, 1, 1, 1, 1, 1, 1, 1, 1, 1, 0, 0]), (cd (Tryz.f45.body.getD .skip) [1, 1, 1, 1, 1, 1, 0, 1, 0, 1, 1, 1, 1, 1, 1, 1, 1, 1, 1, 1, 1, 1, 1, 1, 1, 1, 0, 1, 0]), (cd (Tryz.f45.body.getD .skip) [1, 1, 1, 1, 1, 1, 0, 1, 0, 1, 1, 1, 1, 1, 1, 1, 1, 1, 1, 1, 1, 1, 1, 1, 1, 1, 0, 1, 1])]) (N := (fun s w => s45_p1 K (s 2) (s 4) (s 5) w)) (N' := (s45_p1_den K)) (X := (fun i => (bif Nat.beq i 0 then (fun s w => s45_p1 K (s 2) (s 4) (s 5) w) else (fun _ _ => False)))) (X' := (fun i => (bif Nat.beq i 0 then (s45_p1_den K) else (fun _ _ => False)))) (R := s45_R K) (s := s) (w := w) (p := s45_p13 K (s 2) (s 4) (s 5) w) (q := s45_p13_den K s w) (fun s w h => s45_p1_ok K s w @h) (fun i => (tr_bif (fun s w h => s45_p1_ok K s w @h) tr_id)) (by kernel_rfl) (by kernel_rfl) @h
def s45_p14 (K : Value → World → Prop) (t2 t4 t5 : Value) (w : World) : Prop :=
  cl Tryz.prog 105 #[t4] (fun t102 w =>
  fd 21 t5 (fun t103 w =>
  st1 t103 t102 (fun w =>
  s45_p1 K t2 t4 t5 w) w) w) w
def s45_p14_den (K : Value → World → Prop) : (Nat → Value) → World → Prop := denL Tryz.prog [(cd (Tryz.f45.body.getD .skip) [1, 1, 1, 1, 1, 1, 0, 1, 0, 1, 1, 1, 1, 1, 1, 1, 1, 1, 1, 1, 1, 1, 1, 1, 1, 1, 1, 1, 0])] (s45_p1_den K) (fun i => (bif Nat.beq i 0 then (s45_p1_den K) else (fun _ _ => False))) (s45_R K)
theorem s45_p14_ok (K : Value → World → Prop) (s : Nat → Value) (w : World) (h : s45_p14 K (s 2) (s 4) (s 5) w) : Tr (s45_p14_den K s w) :=
  tr_simple (P := Tryz.prog) (codes := [(cd (Tryz.f45.body.getD .skip) [1, 1, 1, 1, 1, 1, 0, 1, 0, 1, 1, 1, 1, 1, 1, 1, 1, 1, 1, 1, 1, 1, 1, 1, 1, 1, 1, 1, 0])]) (N := (fun s w => s45_p1 K (s 2) (s 4) (s 5) w)) (N' := (s45_p1_den K)) (X := (fun i => (bif Nat.beq i 0 then (fun s w => s45_p1 K (s 2) (s 4) (s 5) w) else (fun _ _ => False)))) (X' := (fun i => (bif Nat.beq i 0 then (s45_p1_den K) else (fun _ _ => False)))) (R := s45_R K) (s := s) (w := w) (p := s45_p14 K (s 2) (s 4) (s 5) w) (q := s45_p14_den K s w) (fun s w h => s45_p1_ok K s w @h) (fun i => (tr_bif (fun s w h => s45_p1_ok K s w @h) tr_id)) (by kernel_rfl) (by kernel_rfl) @h
def s45_p15 (K : Value → World → Prop) (B1 : List Value → World → Prop) (t2 t4 t5 t7 : Value) (w : World) : Prop :=
  boI .lss t7 (.int .i64 10) (fun t107 w =>
  ifb t107
  (cl Tryz.prog 105 #[t4] (fun t111 w =>
  fd 22 t5 (fun t112 w =>
  ixa 10 1 t112 t7 (fun t113 w =>
  st1 t113 t111 (fun w =>
  boI .add t7 (.int .i64 1) (fun t109 w =>
  B1 [t2, t4, t5, t109] w) w) w) w) w) w)
  (s45_p1 K t2 t4 t5 w)) w
def s45_p15_den (K : Value → World → Prop) (M1 : (Nat → Value) → World → Prop) : (Nat → Value) → World → Prop := denL Tryz.prog [(cd (Tryz.f45.body.getD .skip) [1, 1, 1, 1, 1, 1, 0, 1, 0, 1, 1, 1, 1, 1, 1, 1, 1, 1, 1, 1, 1, 1, 1, 1, 1, 1, 1, 1, 1, 1, 0, 1, 0, 0, 0, 0]), (cd (Tryz.f45.body.getD .skip) [1, 1, 1, 1, 1, 1, 0, 1, 0, 1, 1, 1, 1, 1, 1, 1, 1, 1, 1, 1, 1, 1, 1, 1, 1, 1, 1, 1, 1, 1, 0, 1, 0, 0, 0, 1]), (cd (Tryz.f45.body.getD .skip) [1, 1, 1, 1, 1, 1, 0, 1, 0, 1, 1, 1, 1, 1, 1, 1, 1, 1, 1, 1, 1, 1, 1, 1, 1, 1, 1, 1, 1, 1, 0, 1, 0, 0, 1, 0]), (cd (Tryz.f45.body.getD .skip) [1, 1, 1, 1, 1, 1, 0, 1, 0, 1, 1, 1, 1, 1, 1, 1, 1, 1, 1, 1, 1, 1, 1, 1, 1, 1, 1, 1, 1, 1, 0, 1, 0, 0, 1, 1])] M1 (fun i => (bif Nat.beq i 3 then (s45_p1_den K) else (bif Nat.beq i 0 then (s45_p1_den K) else (fun _ _ => False)))) (s45_R K)
theorem s45_p15_ok (K : Value → World → Prop) (B1 : List Value → World → Prop) (s : Nat → Value) (w : World) (h : s45_p15 K B1 (s 2) (s 4) (s 5) (s 7) w) : Tr (s45_p15_den K (fun s w => B1 [s 2, s 4, s 5, s 7] w) s w) :=
  tr_simple (P := Tryz.prog) (codes := [(cd (Tryz.f45.body.getD .skip) [1, 1, 1, 1, 1, 1, 0, 1, 0, 1, 1, 1, 1, 1, 1, 1, 1, 1, 1, 1, 1, 1, 1, 1, 1, 1, 1, 1, 1, 1, 0, 1, 0, 0, 0, 0]), (cd (Tryz.f45.body.getD .skip) [1, 1, 1, 1, 1, 1, 0, 1, 0, 1, 1, 1, 1, 1, 1, 1, 1, 1, 1, 1, 1, 1, 1, 1, 1, 1, 1, 1, 1, 1, 0, 1, 0, 0, 0, 1]), (cd (Tryz.f45.body.getD .skip) [1, 1, 1, 1, 1, 1, 0, 1, 0, 1, 1, 1, 1, 1, 1, 1, 1, 1, 1, 1, 1, 1, 1, 1, 1, 1, 1, 1, 1, 1, 0, 1, 0, 0, 1, 0]), (cd (Tryz.f45.body.getD .skip) [1, 1, 1, 1, 1, 1, 0, 1, 0, 1, 1, 1, 1, 1, 1, 1, 1, 1, 1, 1, 1, 1, 1, 1, 1, 1, 1, 1, 1, 1, 0, 1, 0, 0, 1, 1])]) (N := (fun s w => B1 [s 2, s 4, s 5, s 7] w)) (N' := (fun s w => B1 [s 2, s 4, s 5, s 7] w)) (X := (fun i => (bif Nat.beq i 3 then (fun s w => s45_p1 K (s 2) (s 4) (s 5) w) else (bif Nat.beq i 0 then (fun s w => s45_p1 K (s 2) (s 4) (s 5) w) else (fun _ _ => False))))) (X' := (fun i => (bif Nat.beq i 3 then (s45_p1_den K) else (bif Nat.beq i 0 then (s45_p1_den K) else (fun _ _ => False))))) (R := s45_R K) (s := s) (w := w) (p := s45_p15 K B1 (s 2) (s 4) (s 5) (s 7) w) (q := s45_p15_den K (fun s w => B1 [s 2, s 4, s 5, s 7] w) s w) tr_id (fun i => (tr_bif (fun s w h => s45_p1_ok K s w @h) (tr_bif (fun s w h => s45_p1_ok K s w @h) tr_id))) (by kernel_rfl) (by kernel_rfl) @h
def s45_p16_F (K : Value → World → Prop) (B1 : List Value → World → Prop) (l : List Value) (w : World) : Prop :=
  match l with
  | [t2, t4, t5, t7] => s45_p15 K B1 t2 t4 t5 t7 w
  | _ => False
theorem s45_p16_Fe {K : Value → World → Prop} {B1 : List Value → World → Prop} {t2 t4 t5 t7 : Value} {w : World} : s45_p16_F K B1 [t2, t4, t5, t7] w = s45_p15 K B1 t2 t4 t5 t7 w := by kernel_rfl
def s45_p16 (K : Value → World → Prop) (t2 t4 t5 t7 : Value) (w : World) : Prop :=
  LoopL (s45_p16_F K) [t2, t4, t5, t7] w
def s45_p16_den (K : Value → World → Prop) : (Nat → Value) → World → Prop := fun s w => LoopP (fun M1 s w => s45_p15_den K M1 s w) s w
theorem s45_p16_ok (K : Value → World → Prop) (s : Nat → Value) (w : World) (h : s45_p16 K (s 2) (s 4) (s 5) (s 7) w) : Tr (s45_p16_den K s w) :=
  tr_loop (G := fun N' s w => s45_p15_den K N' s w) (F := s45_p16_F K) (sel := fun s => [s 2, s 4, s 5, s 7]) (s := s) (w := w) (p := s45_p16 K (s 2) (s 4) (s 5) (s 7) w) (q := s45_p16_den K s w) (fun B s w h => s45_p15_ok K B s w @h) (by kernel_rfl) (by kernel_rfl) @h
def s45_p17 (K : Value → World → Prop) (t2 t4 t5 : Value) (w : World) : Prop :=
  s45_p16 K t2 t4 t5 (.int .i64 1) w
def s45_p17_den (K : Value → World → Prop) : (Nat → Value) → World → Prop := denL Tryz.prog [(cd (Tryz.f45.body.getD .skip) [1, 1, 1, 1, 1, 1, 0, 1, 0, 1, 1, 1, 1, 1, 1, 1, 1, 1, 1, 1, 1, 1, 1, 1, 1, 1, 1, 1, 1, 1, 0, 0])] (s45_p16_den K) (fun i => (bif Nat.beq i 0 then (s45_p1_den K) else (fun _ _ => False))) (s45_R K)
theorem s45_p17_ok (K : Value → World → Prop) (s : Nat → Value) (w : World) (h : s45_p17 K (s 2) (s 4) (s 5) w) : Tr (s45_p17_den K s w) :=
  tr_simple (P := Tryz.prog) (codes := [(cd (Tryz.f45.body.getD .skip) [1, 1, 1, 1, 1, 1, 0, 1, 0, 1, 1, 1, 1, 1, 1, 1, 1, 1, 1, 1, 1, 1, 1, 1, 1, 1, 1, 1, 1, 1, 0, 0])]) (N := (fun s w => s45_p16 K (s 2) (s 4) (s 5) (s 7) w)) (N' := (s45_p16_den K)) (X := (fun i => (bif Nat.beq i 0 then (fun s w => s45_p1 K (s 2) (s 4) (s 5) w) else (fun _ _ => False)))) (X' := (fun i => (bif Nat.beq i 0 then (s45_p1_den K) else (fun _ _ => False)))) (R := s45_R K) (s := s) (w := w) (p := s45_p17 K (s 2) (s 4) (s 5) w) (q := s45_p17_den K s w) (fun s w h => s45_p16_ok K s w @h) (fun i => (tr_bif (fun s w h => s45_p1_ok K s w @h) tr_id)) (by kernel_rfl) (by kernel_rfl) @h
def s45_p18 (K : Value → World → Prop) (t2 t4 t5 t27 : Value) (w : World) : Prop :=
  boI .eql t27 (.int .u8 24) (fun t115 w =>
  ifb t115
  (cl Tryz.prog 105 #[t4] (fun t116 w =>
  fd 32 t5 (fun t117 w =>
  st1 t117 t116 (fun w =>
  cl Tryz.prog 105 #[t4] (fun t118 w =>
  fd 4 t5 (fun t119 w =>
  st1 t119 t118 (fun w =>
  cl Tryz.prog 105 #[t4] (fun t120 w =>
  fd 33 t5 (fun t121 w =>
  st1 t121 t120 (fun w =>
  s45_p1 K t2 t4 t5 w) w) w) w) w) w) w) w) w) w)
  (cl Tryz.prog 107 #[t4] (fun t28 w =>
  s45_p1 K t2 t4 t5 w) w)) w
def s45_p18_den (K : Value → World → Prop) : (Nat → Value) → World → Prop := denL Tryz.prog [(cd (Tryz.f45.body.getD .skip) [1, 1, 1, 1, 1, 1, 0, 1, 0, 1, 1, 1, 1, 1, 1, 1, 1, 1, 1, 1, 1, 1, 1, 1, 1, 1, 1, 1, 1, 1, 1, 0]), (cd (Tryz.f45.body.getD .skip) [1, 1, 1, 1, 1, 1, 0, 1, 0, 1, 1, 1, 1, 1, 1, 1, 1, 1, 1, 1, 1, 1, 1, 1, 1, 1, 1, 1, 1, 1, 1, 1])] (s45_p1_den K) (fun i => (bif Nat.beq i 0 then (s45_p1_den K) else (fun _ _ => False))) (s45_R K)
theorem s45_p18_ok (K : Value → World → Prop) (s : Nat → Value) (w : World) (h : s45_p18 K (s 2) (s 4) (s 5) (s 27) w) : Tr (s45_p18_den K s w) :=
  tr_simple (P := Tryz.prog) (codes := [(cd (Tryz.f45.body.getD .skip) [1, 1, 1, 1, 1, 1, 0, 1, 0, 1, 1, 1, 1, 1, 1, 1, 1, 1, 1, 1, 1, 1, 1, 1, 1, 1, 1, 1, 1, 1, 1, 0]), (cd (Tryz.f45.body.getD .skip) [1, 1, 1, 1, 1, 1, 0, 1, 0, 1, 1, 1, 1, 1, 1, 1, 1, 1, 1, 1, 1, 1, 1, 1, 1, 1, 1, 1, 1, 1, 1, 1])]) (N := (fun s w => s45_p1 K (s 2) (s 4) (s 5) w)) (N' := (s45_p1_den K)) (X := (fun i => (bif Nat.beq i 0 then (fun s w => s45_p1 K (s 2) (s 4) (s 5) w) else (fun _ _ => False)))) (X' := (fun i => (bif Nat.beq i 0 then (s45_p1_den K) else (fun _ _ => False)))) (R := s45_R K) (s := s) (w := w) (p := s45_p18 K (s 2) (s 4) (s 5) (s 27) w) (q := s45_p18_den K s w) (fun s w h => s45_p1_ok K s w @h) (fun i => (tr_bif (fun s w h => s45_p1_ok K s w @h) tr_id)) (by kernel_rfl) (by kernel_rfl) @h
def s45_p19 (K : Value → World → Prop) (t2 t4 t5 t27 t104 : Value) (w : World) : Prop :=
  ifb t104
  (s45_p17 K t2 t4 t5 w)
  (s45_p18 K t2 t4 t5 t27 w)
def s45_p19_den (K : Value → World → Prop) : (Nat → Value) → World → Prop := fun s w => ifb (ev s (.tmp 104)) ((s45_p17_den K) s w) ((s45_p18_den K) s w)
theorem s45_p19_ok (K : Value → World → Prop) (s : Nat → Value) (w : World) (h : s45_p19 K (s 2) (s 4) (s 5) (s 27) (s 104) w) : Tr (s45_p19_den K s w) :=
  tr_cond (v := ev s (.tmp 104)) (a := (fun s w => s45_p17 K (s 2) (s 4) (s 5) w) s w) (a' := (s45_p17_den K) s w) (b := (fun s w => s45_p18 K (s 2) (s 4) (s 5) (s 27) w) s w) (b' := (s45_p18_den K) s w) (p := s45_p19 K (s 2) (s 4) (s 5) (s 27) (s 104) w) (q := s45_p19_den K s w) ((fun s w h => s45_p17_ok K s w @h) s w) ((fun s w h => s45_p18_ok K s w @h) s w) (by kernel_rfl) (by kernel_rfl) @h
def s45_p20 (K : Value → World → Prop) (t2 t4 t5 t27 : Value) (w : World) : Prop :=
  boI .eql t27 (.int .u8 23) (fun t105 w =>
  s45_p19 K t2 t4 t5 t27 t105 w) w
def s45_p20_den (K : Value → World → Prop) : (Nat → Value) → World → Prop := denL Tryz.prog [(cd (Tryz.f45.body.getD .skip) [1, 1, 1, 1, 1, 1, 0, 1, 0, 1, 1, 1, 1, 1, 1, 1, 1, 1, 1, 1, 1, 1, 1, 1, 1, 1, 1, 1, 1, 0])] (s45_p19_den K) (fun i => (bif Nat.beq i 0 then (s45_p1_den K) else (fun _ _ => False))) (s45_R K)
theorem s45_p20_ok (K : Value → World → Prop) (s : Nat → Value) (w : World) (h : s45_p20 K (s 2) (s 4) (s 5) (s 27) w) : Tr (s45_p20_den K s w) :=
  tr_simple (P := Tryz.prog) (codes := [(cd (Tryz.f45.body.getD .skip) [1, 1, 1, 1, 1, 1, 0, 1, 0, 1, 1, 1, 1, 1, 1, 1, 1, 1, 1, 1, 1, 1, 1, 1, 1, 1, 1, 1, 1, 0])]) (N := (fun s w => s45_p19 K (s 2) (s 4) (s 5) (s 27) (s 104) w)) (N' := (s45_p19_den K)) (X := (fun i => (bif Nat.beq i 0 then (fun s w => s45_p1 K (s 2) (s 4) (s 5) w) else (fun _ _ => False)))) (X' := (fun i => (bif Nat.beq i 0 then (s45_p1_den K) else (fun _ _ => False)))) (R := s45_R K) (s := s) (w := w) (p := s45_p20 K (s 2) (s 4) (s 5) (s 27) w) (q := s45_p20_den K s w) (fun s w h => s45_p19_ok K s w @h) (fun i => (tr_bif (fun s w h => s45_p1_ok K s w @h) tr_id)) (by kernel_rfl) (by kernel_rfl) @h
def s45_p21 (K : Value → World → Prop) (t2 t4 t5 t27 t100 : Value) (w : World) : Prop :=
  ifb t100
  (s45_p14 K t2 t4 t5 w)
  (s45_p20 K t2 t4 t5 t27 w)
def s45_p21_den (K : Value → World → Prop) : (Nat → Value) → World → Prop := fun s w => ifb (ev s (.tmp 100)) ((s45_p14_den K) s w) ((s45_p20_den K) s w)
theorem s45_p21_ok (K : Value → World → Prop) (s : Nat → Value) (w : World) (h : s45_p21 K (s 2) (s 4) (s 5) (s 27) (s 100) w) : Tr (s45_p21_den K s w) :=
  tr_cond (v := ev s (.tmp 100)) (a := (fun s w => s45_p14 K (s 2) (s 4) (s 5) w) s w) (a' := (s45_p14_den K) s w) (b := (fun s w => s45_p20 K (s 2) (s 4) (s 5) (s 27) w) s w) (b' := (s45_p20_den K) s w) (p := s45_p21 K (s 2) (s 4) (s 5) (s 27) (s 100) w) (q := s45_p21_den K s w) ((fun s w h => s45_p14_ok K s w @h) s w) ((fun s w h => s45_p20_ok K s w @h) s w) (by kernel_rfl) (by kernel_rfl) @h
def s45_p22 (K : Value → World → Prop) (t2 t4 t5 t27 : Value) (w : World) : Prop :=
  boI .eql t27 (.int .u8 21) (fun t101 w =>
  s45_p21 K t2 t4 t5 t27 t101 w) w
def s45_p22_den (K : Value → World → Prop) : (Nat → Value) → World → Prop := denL Tryz.prog [(cd (Tryz.f45.body.getD .skip) [1, 1, 1, 1, 1, 1, 0, 1, 0, 1, 1, 1, 1, 1, 1, 1, 1, 1, 1, 1, 1, 1, 1, 1, 1, 1, 1, 0])] (s45_p21_den K) (fun i => (bif Nat.beq i 0 then (s45_p1_den K) else (fun _ _ => False))) (s45_R K)
theorem s45_p22_ok (K : Value → World → Prop) (s : Nat → Value) (w : World) (h : s45_p22 K (s 2) (s 4) (s 5) (s 27) w) : Tr (s45_p22_den K s w) :=
  tr_simple (P := Tryz.prog) (codes := [(cd (Tryz.f45.body.getD .skip) [1, 1, 1, 1, 1, 1, 0, 1, 0, 1, 1, 1, 1, 1, 1, 1, 1, 1, 1, 1, 1, 1, 1, 1, 1, 1, 1, 0])]) (N := (fun s w => s45_p21 K (s 2) (s 4) (s 5) (s 27) (s 100) w)) (N' := (s45_p21_den K)) (X := (fun i => (bif Nat.beq i 0 then (fun s w => s45_p1 K (s 2) (s 4) (s 5) w) else (fun _ _ => False)))) (X' := (fun i => (bif Nat.beq i 0 then (s45_p1_den K) else (fun _ _ => False)))) (R := s45_R K) (s := s) (w := w) (p := s45_p22 K (s 2) (s 4) (s 5) (s 27) w) (q := s45_p22_den K s w) (fun s w h => s45_p21_ok K s w @h) (fun i => (tr_bif (fun s w h => s45_p1_ok K s w @h) tr_id)) (by kernel_rfl) (by kernel_rfl) @h
def s45_p23 (K : Value → World → Prop) (t2 t4 t5 t27 t92 : Value) (w : World) : Prop :=
  ifb t92
  (s45_p13 K t2 t4 t5 w)
  (s45_p22 K t2 t4 t5 t27 w)
def s45_p23_den (K : Value → World → Prop) : (Nat → Value) → World → Prop := fun s w => ifb (ev s (.tmp 92)) ((s45_p13_den K) s w) ((s45_p22_den K) s w)
theorem s45_p23_ok (K : Value → World → Prop) (s : Nat → Value) (w : World) (h : s45_p23 K (s 2) (s 4) (s 5) (s 27) (s 92) w) : Tr (s45_p23_den K s w) :=
  tr_cond (v := ev s (.tmp 92)) (a := (fun s w => s45_p13 K (s 2) (s 4) (s 5) w) s w) (a' := (s45_p13_den K) s w) (b := (fun s w => s45_p22 K (s 2) (s 4) (s 5) (s 27) w) s w) (b' := (s45_p22_den K) s w) (p := s45_p23 K (s 2) (s 4) (s 5) (s 27) (s 92) w) (q := s45_p23_den K s w) ((fun s w h => s45_p13_ok K s w @h) s w) ((fun s w h => s45_p22_ok K s w @h) s w) (by kernel_rfl) (by kernel_rfl) @h
def s45_p24 (K : Value → World → Prop) (t2 t4 t5 t27 : Value) (w : World) : Prop :=
  boI .eql t27 (.int .u8 20) (fun t93 w =>
  s45_p23 K t2 t4 t5 t27 t93 w) w
def s45_p24_den (K : Value → World → Prop) : (Nat → Value) → World → Prop := denL Tryz.prog [(cd (Tryz.f45.body.getD .skip) [1, 1, 1, 1, 1, 1, 0, 1, 0, 1, 1, 1, 1, 1, 1, 1, 1, 1, 1, 1, 1, 1, 1, 1, 1, 0])] (s45_p23_den K) (fun i => (bif Nat.beq i 0 then (s45_p1_den K) else (fun _ _ => False))) (s45_R K)
theorem s45_p24_ok (K : Value → World → Prop) (s : Nat → Value) (w : World) (h : s45_p24 K (s 2) (s 4) (s 5) (s 27) w) : Tr (s45_p24_den K s w) :=
  tr_simple (P := Tryz.prog) (codes := [(cd (Tryz.f45.body.getD .skip) [1, 1, 1, 1, 1, 1, 0, 1, 0, 1, 1, 1, 1, 1, 1, 1, 1, 1, 1, 1, 1, 1, 1, 1, 1, 0])]) (N := (fun s w => s45_p23 K (s 2) (s 4) (s 5) (s 27) (s 92) w)) (N' := (s45_p23_den K)) (X := (fun i => (bif Nat.beq i 0 then (fun s w => s45_p1 K (s 2) (s 4) (s 5) w) else (fun _ _ => False)))) (X' := (fun i => (bif Nat.beq i 0 then (s45_p1_den K) else (fun _ _ => False)))) (R := s45_R K) (s := s) (w := w) (p := s45_p24 K (s 2) (s 4) (s 5) (s 27) w) (q := s45_p24_den K s w) (fun s w h => s45_p23_ok K s w @h) (fun i => (tr_bif (fun s w h => s45_p1_ok K s w @h) tr_id)) (by kernel_rfl) (by kernel_rfl) @h
def s45_p25 (K : Value → World → Prop) (t2 t4 t5 t27 t88 : Value) (w : World) : Prop :=
  ifb t88
  (s45_p12 K t2 t4 t5 w)
  (s45_p24 K t2 t4 t5 t27 w)
def s45_p25_den (K : Value → World → Prop) : (Nat → Value) → World → Prop := fun s w => ifb (ev s (.tmp 88)) ((s45_p12_den K) s w) ((s45_p24_den K) s w)
theorem s45_p25_ok (K : Value → World → Prop) (s : Nat → Value) (w : World) (h : s45_p25 K (s 2) (s 4) (s 5) (s 27) (s 88) w) : Tr (s45_p25_den K s w) :=
  tr_cond (v := ev s (.tmp 88)) (a := (fun s w => s45_p12 K (s 2) (s 4) (s 5) w) s w) (a' := (s45_p12_den K) s w) (b := (fun s w => s45_p24 K (s 2) (s 4) (s 5) (s 27) w) s w) (b' := (s45_p24_den K) s w) (p := s45_p25 K (s 2) (s 4) (s 5) (s 27) (s 88) w) (q := s45_p25_den K s w) ((fun s w h => s45_p12_ok K s w @h) s w) ((fun s w h => s45_p24_ok K s w @h) s w) (by kernel_rfl) (by kernel_rfl) @h
def s45_p26 (K : Value → World → Prop) (t2 t4 t5 t27 : Value) (w : World) : Prop :=
  boI .eql t27 (.int .u8 19) (fun t89 w =>
  s45_p25 K t2 t4 t5 t27 t89 w) w
def s45_p26_den (K : Value → World → Prop) : (Nat → Value) → World → Prop := denL Tryz.prog [(cd (Tryz.f45.body.getD .skip) [1, 1, 1, 1, 1, 1, 0, 1, 0, 1, 1, 1, 1, 1, 1, 1, 1, 1, 1, 1, 1, 1, 1, 0])] (s45_p25_den K) (fun i => (bif Nat.beq i 0 then (s45_p1_den K) else (fun _ _ => False))) (s45_R K)
theorem s45_p26_ok (K : Value → World → Prop) (s : Nat → Value) (w : World) (h : s45_p26 K (s 2) (s 4) (s 5) (s 27) w) : Tr (s45_p26_den K s w) :=
  tr_simple (P := Tryz.prog) (codes := [(cd (Tryz.f45.body.getD .skip) [1, 1, 1, 1, 1, 1, 0, 1, 0, 1, 1, 1, 1, 1, 1, 1, 1, 1, 1, 1, 1, 1, 1, 0])]) (N := (fun s w => s45_p25 K (s 2) (s 4) (s 5) (s 27) (s 88) w)) (N' := (s45_p25_den K)) (X := (fun i => (bif Nat.beq i 0 then (fun s w => s45_p1 K (s 2) (s 4) (s 5) w) else (fun _ _ => False)))) (X' := (fun i => (bif Nat.beq i 0 then (s45_p1_den K) else (fun _ _ => False)))) (R := s45_R K) (s := s) (w := w) (p := s45_p26 K (s 2) (s 4) (s 5) (s 27) w) (q := s45_p26_den K s w) (fun s w h => s45_p25_ok K s w @h) (fun i => (tr_bif (fun s w h => s45_p1_ok K s w @h) tr_id)) (by kernel_rfl) (by kernel_rfl) @h
def s45_p27 (K : Value → World → Prop) (t2 t4 t5 t27 t74 : Value) (w : World) : Prop :=
  ifb t74
  (s45_p11 K t2 t4 t5 w)
  (s45_p26 K t2 t4 t5 t27 w)
def s45_p27_den (K : Value → World → Prop) : (Nat → Value) → World → Prop := fun s w => ifb (ev s (.tmp 74)) ((s45_p11_den K) s w) ((s45_p26_den K) s w)
theorem s45_p27_ok (K : Value → World → Prop) (s : Nat → Value) (w : World) (h : s45_p27 K (s 2) (s 4) (s 5) (s 27) (s 74) w) : Tr (s45_p27_den K s w) :=
  tr_cond (v := ev s (.tmp 74)) (a := (fun s w => s45_p11 K (s 2) (s 4) (s 5) w) s w) (a' := (s45_p11_den K) s w) (b := (fun s w => s45_p26 K (s 2) (s 4) (s 5) (s 27) w) s w) (b' := (s45_p26_den K) s w) (p := s45_p27 K (s 2) (s 4) (s 5) (s 27) (s 74) w) (q := s45_p27_den K s w) ((fun s w h => s45_p11_ok K s w @h) s w) ((fun s w h => s45_p26_ok K s w @h) s w) (by kernel_rfl) (by kernel_rfl) @h
def s45_p28 (K : Value → World → Prop) (t2 t4 t5 t27 : Value) (w : World) : Prop :=
  boI .eql t27 (.int .u8 18) (fun t75 w =>
  s45_p27 K t2 t4 t5 t27 t75 w) w
def s45_p28_den (K : Value → World → Prop) : (Nat → Value) → World → Prop := denL Tryz.prog [(cd (Tryz.f45.body.getD .skip) [1, 1, 1, 1, 1, 1, 0, 1, 0, 1, 1, 1, 1, 1, 1, 1, 1, 1, 1, 1, 1, 0])] (s45_p27_den K) (fun i => (bif Nat.beq i 0 then (s45_p1_den K) else (fun _ _ => False))) (s45_R K)
theorem s45_p28_ok (K : Value → World → Prop) (s : Nat → Value) (w : World) (h : s45_p28 K (s 2) (s 4) (s 5) (s 27) w) : Tr (s45_p28_den K s w) :=
  tr_simple (P := Tryz.prog) (codes := [(cd (Tryz.f45.body.getD .skip) [1, 1, 1, 1, 1, 1, 0, 1, 0, 1, 1, 1, 1, 1, 1, 1, 1, 1, 1, 1, 1, 0])]) (N := (fun s w => s45_p27 K (s 2) (s 4) (s 5) (s 27) (s 74) w)) (N' := (s45_p27_den K)) (X := (fun i => (bif Nat.beq i 0 then (fun s w => s45_p1 K (s 2) (s 4) (s 5) w) else (fun _ _ => False)))) (X' := (fun i => (bif Nat.beq i 0 then (s45_p1_den K) else (fun _ _ => False)))) (R := s45_R K) (s := s) (w := w) (p := s45_p28 K (s 2) (s 4) (s 5) (s 27) w) (q := s45_p28_den K s w) (fun s w h => s45_p27_ok K s w @h) (fun i => (tr_bif (fun s w h => s45_p1_ok K s w @h) tr_id)) (by kernel_rfl) (by kernel_rfl) @h
def s45_p29 (K : Value → World → Prop) (t2 t4 t5 t27 t68 : Value) (w : World) : Prop :=
  ifb t68
  (s45_p7 K t2 t4 t5 w)
  (s45_p28 K t2 t4 t5 t27 w)
def s45_p29_den (K : Value → World → Prop) : (Nat → Value) → World → Prop := fun s w => ifb (ev s (.tmp 68)) ((s45_p7_den K) s w) ((s45_p28_den K) s w)
theorem s45_p29_ok (K : Value → World → Prop) (s : Nat → Value) (w : World) (h : s45_p29 K (s 2) (s 4) (s 5) (s 27) (s 68) w) : Tr (s45_p29_den K s w) :=
  tr_cond (v := ev s (.tmp 68)) (a := (fun s w => s45_p7 K (s 2) (s 4) (s 5) w) s w) (a' := (s45_p7_den K) s w) (b := (fun s w => s45_p28 K (s 2) (s 4) (s 5) (s 27) w) s w) (b' := (s45_p28_den K) s w) (p := s45_p29 K (s 2) (s 4) (s 5) (s 27) (s 68) w) (q := s45_p29_den K s w) ((fun s w h => s45_p7_ok K s w @h) s w) ((fun s w h => s45_p28_ok K s w @h) s w) (by kernel_rfl) (by kernel_rfl) @h
def s45_p30 (K : Value → World → Prop) (t2 t4 t5 t27 : Value) (w : World) : Prop :=
  boI .eql t27 (.int .u8 17) (fun t69 w =>
  s45_p29 K t2 t4 t5 t27 t69 w) w
def s45_p30_den (K : Value → World → Prop) : (Nat → Value) → World → Prop := denL Tryz.prog [(cd (Tryz.f45.body.getD .skip) [1, 1, 1, 1, 1, 1, 0, 1, 0, 1, 1, 1, 1, 1, 1, 1, 1, 1, 1, 0])] (s45_p29_den K) (fun i => (bif Nat.beq i 0 then (s45_p1_den K) else (fun _ _ => False))) (s45_R K)
theorem s45_p30_ok (K : Value → World → Prop) (s : Nat → Value) (w : World) (h : s45_p30 K (s 2) (s 4) (s 5) (s 27) w) : Tr (s45_p30_den K s w) :=
  tr_simple (P := Tryz.prog) (codes := [(cd (Tryz.f45.body.getD .skip) [1, 1, 1, 1, 1, 1, 0, 1, 0, 1, 1, 1, 1, 1, 1, 1, 1, 1, 1, 0])]) (N := (fun s w => s45_p29 K (s 2) (s 4) (s 5) (s 27) (s 68) w)) (N' := (s45_p29_den K)) (X := (fun i => (bif Nat.beq i 0 then (fun s w => s45_p1 K (s 2) (s 4) (s 5) w) else (fun _ _ => False)))) (X' := (fun i => (bif Nat.beq i 0 then (s45_p1_den K) else (fun _ _ => False)))) (R := s45_R K) (s := s) (w := w) (p := s45_p30 K (s 2) (s 4) (s 5) (s 27) w) (q := s45_p30_den K s w) (fun s w h => s45_p29_ok K s w @h) (fun i => (tr_bif (fun s w h => s45_p1_ok K s w @h) tr_id)) (by kernel_rfl) (by kernel_rfl) @h
def s45_p31 (K : Value → World → Prop) (t2 t4 t5 t27 t63 : Value) (w : World) : Prop :=
  ifb t63
  (s45_p6 K t2 t4 t5 w)
  (s45_p30 K t2 t4 t5 t27 w)
def s45_p31_den (K : Value → World → Prop) : (Nat → Value) → World → Prop := fun s w => ifb (ev s (.tmp 63)) ((s45_p6_den K) s w) ((s45_p30_den K) s w)
theorem s45_p31_ok (K : Value → World → Prop) (s : Nat → Value) (w : World) (h : s45_p31 K (s 2) (s 4) (s 5) (s 27) (s 63) w) : Tr (s45_p31_den K s w) :=
  tr_cond (v := ev s (.tmp 63)) (a := (fun s w => s45_p6 K (s 2) (s 4) (s 5) w) s w) (a' := (s45_p6_den K) s w) (b := (fun s w => s45_p30 K (s 2) (s 4) (s 5) (s 27) w) s w) (b' := (s45_p30_den K) s w) (p := s45_p31 K (s 2) (s 4) (s 5) (s 27) (s 63) w) (q := s45_p31_den K s w) ((fun s w h => s45_p6_ok K s w @h) s w) ((fun s w h => s45_p30_ok K s w @h) s w) (by kernel_rfl) (by kernel_rfl) @h
def s45_p32 (K : Value → World → Prop) (t2 t4 t5 t27 : Value) (w : World) : Prop :=
  boI .eql t27 (.int .u8 16) (fun t64 w =>
  s45_p31 K t2 t4 t5 t27 t64 w) w
def s45_p32_den (K : Value → World → Prop) : (Nat → Value) → World → Prop := denL Tryz.prog [(cd (Tryz.f45.body.getD .skip) [1, 1, 1, 1, 1, 1, 0, 1, 0, 1, 1, 1, 1, 1, 1, 1, 1, 0])] (s45_p31_den K) (fun i => (bif Nat.beq i 0 then (s45_p1_den K) else (fun _ _ => False))) (s45_R K)
theorem s45_p32_ok (K : Value → World → Prop) (s : Nat → Value) (w : World) (h : s45_p32 K (s 2) (s 4) (s 5) (s 27) w) : Tr (s45_p32_den K s w) :=
  tr_simple (P := Tryz.prog) (codes := [(cd (Tryz.f45.body.getD .skip) [1, 1, 1, 1, 1, 1, 0, 1, 0, 1, 1, 1, 1, 1, 1, 1, 1, 0])]) (N := (fun s w => s45_p31 K (s 2) (s 4) (s 5) (s 27) (s 63) w)) (N' := (s45_p31_den K)) (X := (fun i => (bif Nat.beq i 0 then (fun s w => s45_p1 K (s 2) (s 4) (s 5) w) else (fun _ _ => False)))) (X' := (fun i => (bif Nat.beq i 0 then (s45_p1_den K) else (fun _ _ => False)))) (R := s45_R K) (s := s) (w := w) (p := s45_p32 K (s 2) (s 4) (s 5) (s 27) w) (q := s45_p32_den K s w) (fun s w h => s45_p31_ok K s w @h) (fun i => (tr_bif (fun s w h => s45_p1_ok K s w @h) tr_id)) (by kernel_rfl) (by kernel_rfl) @h
def s45_p33 (K : Value → World → Prop) (t2 t4 t5 t27 t51 : Value) (w : World) : Prop :=
  ifb t51
  (s45_p5 K t2 t4 t5 w)
  (s45_p32 K t2 t4 t5 t27 w)
def s45_p33_den (K : Value → World → Prop) : (Nat → Value) → World → Prop := fun s w => ifb (ev s (.tmp 51)) ((s45_p5_den K) s w) ((s45_p32_den K) s w)
theorem s45_p33_ok (K : Value → World → Prop) (s : Nat → Value) (w : World) (h : s45_p33 K (s 2) (s 4) (s 5) (s 27) (s 51) w) : Tr (s45_p33_den K s w) :=
  tr_cond (v := ev s (.tmp 51)) (a := (fun s w => s45_p5 K (s 2) (s 4) (s 5) w) s w) (a' := (s45_p5_den K) s w) (b := (fun s w => s45_p32 K (s 2) (s 4) (s 5) (s 27) w) s w) (b' := (s45_p32_den K) s w) (p := s45_p33 K (s 2) (s 4) (s 5) (s 27) (s 51) w) (q := s45_p33_den K s w) ((fun s w h => s45_p5_ok K s w @h) s w) ((fun s w h => s45_p32_ok K s w @h) s w) (by kernel_rfl) (by kernel_rfl) @h
def s45_p34 (K : Value → World → Prop) (t2 t4 t5 t27 : Value) (w : World) : Prop :=
  boI .eql t27 (.int .u8 9) (fun t52 w =>
  s45_p33 K t2 t4 t5 t27 t52 w) w
def s45_p34_den (K : Value → World → Prop) : (Nat → Value) → World → Prop := denL Tryz.prog [(cd (Tryz.f45.body.getD .skip) [1, 1, 1, 1, 1, 1, 0, 1, 0, 1, 1, 1, 1, 1, 1, 0])] (s45_p33_den K) (fun i => (bif Nat.beq i 0 then (s45_p1_den K) else (fun _ _ => False))) (s45_R K)
theorem s45_p34_ok (K : Value → World → Prop) (s : Nat → Value) (w : World) (h : s45_p34 K (s 2) (s 4) (s 5) (s 27) w) : Tr (s45_p34_den K s w) :=
  tr_simple (P := Tryz.prog) (codes := [(cd (Tryz.f45.body.getD .skip) [1, 1, 1, 1, 1, 1, 0, 1, 0, 1, 1, 1, 1, 1, 1, 0])]) (N := (fun s w => s45_p33 K (s 2) (s 4) (s 5) (s 27) (s 51) w)) (N' := (s45_p33_den K)) (X := (fun i => (bif Nat.beq i 0 then (fun s w => s45_p1 K (s 2) (s 4) (s 5) w) else (fun _ _ => False)))) (X' := (fun i => (bif Nat.beq i 0 then (s45_p1_den K) else (fun _ _ => False)))) (R := s45_R K) (s := s) (w := w) (p := s45_p34 K (s 2) (s 4) (s 5) (s 27) w) (q := s45_p34_den K s w) (fun s w h => s45_p33_ok K s w @h) (fun i => (tr_bif (fun s w h => s45_p1_ok K s w @h) tr_id)) (by kernel_rfl) (by kernel_rfl) @h
def s45_p35 (K : Value → World → Prop) (t2 t4 t5 t27 t42 : Value) (w : World) : Prop :=
  ifb t42
  (s45_p4 K t2 t4 t5 w)
  (s45_p34 K t2 t4 t5 t27 w)
def s45_p35_den (K : Value → World → Prop) : (Nat → Value) → World → Prop := fun s w => ifb (ev s (.tmp 42)) ((s45_p4_den K) s w) ((s45_p34_den K) s w)
theorem s45_p35_ok (K : Value → World → Prop) (s : Nat → Value) (w : World) (h : s45_p35 K (s 2) (s 4) (s 5) (s 27) (s 42) w) : Tr (s45_p35_den K s w) :=
  tr_cond (v := ev s (.tmp 42)) (a := (fun s w => s45_p4 K (s 2) (s 4) (s 5) w) s w) (a' := (s45_p4_den K) s w) (b := (fun s w => s45_p34 K (s 2) (s 4) (s 5) (s 27) w) s w) (b' := (s45_p34_den K) s w) (p := s45_p35 K (s 2) (s 4) (s 5) (s 27) (s 42) w) (q := s45_p35_den K s w) ((fun s w h => s45_p4_ok K s w @h) s w) ((fun s w h => s45_p34_ok K s w @h) s w) (by kernel_rfl) (by kernel_rfl) @h
def s45_p36 (K : Value → World → Prop) (t2 t4 t5 t27 : Value) (w : World) : Prop :=
  boI .eql t27 (.int .u8 2) (fun t43 w =>
  ifb t43
  (s45_p35 K t2 t4 t5 t27 t43 w)
  (boI .eql t27 (.int .u8 3) (fun t44 w =>
  ifb t44
  (s45_p35 K t2 t4 t5 t27 t44 w)
  (boI .eql t27 (.int .u8 4) (fun t45 w =>
  ifb t45
  (s45_p35 K t2 t4 t5 t27 t45 w)
  (boI .eql t27 (.int .u8 5) (fun t46 w =>
  ifb t46
  (s45_p35 K t2 t4 t5 t27 t46 w)
  (boI .eql t27 (.int .u8 7) (fun t47 w =>
  ifb t47
  (s45_p35 K t2 t4 t5 t27 t47 w)
  (boI .eql t27 (.int .u8 8) (fun t48 w =>
  s45_p35 K t2 t4 t5 t27 t48 w) w)) w)) w)) w)) w)) w
def s45_p36_den (K : Value → World → Prop) : (Nat → Value) → World → Prop := denL Tryz.prog [(cd (Tryz.f45.body.getD .skip) [1, 1, 1, 1, 1, 1, 0, 1, 0, 1, 1, 1, 1, 0, 0]), (cd (Tryz.f45.body.getD .skip) [1, 1, 1, 1, 1, 1, 0, 1, 0, 1, 1, 1, 1, 0, 1])] (s45_p35_den K) (fun i => (bif Nat.beq i 0 then (s45_p1_den K) else (fun _ _ => False))) (s45_R K)
theorem s45_p36_ok (K : Value → World → Prop) (s : Nat → Value) (w : World) (h : s45_p36 K (s 2) (s 4) (s 5) (s 27) w) : Tr (s45_p36_den K s w) :=
  tr_simple (P := Tryz.prog) (codes := [(cd (Tryz.f45.body.getD .skip) [1, 1, 1, 1, 1, 1, 0, 1, 0, 1, 1, 1, 1, 0, 0]), (cd (Tryz.f45.body.getD .skip) [1, 1, 1, 1, 1, 1, 0, 1, 0, 1, 1, 1, 1, 0, 1])]) (N := (fun s w => s45_p35 K (s 2) (s 4) (s 5) (s 27) (s 42) w)) (N' := (s45_p35_den K)) (X := (fun i => (bif Nat.beq i 0 then (fun s w => s45_p1 K (s 2) (s 4) (s 5) w) else (fun _ _ => False)))) (X' := (fun i => (bif Nat.beq i 0 then (s45_p1_den K) else (fun _ _ => False)))) (R := s45_R K) (s := s) (w := w) (p := s45_p36 K (s 2) (s 4) (s 5) (s 27) w) (q := s45_p36_den K s w) (fun s w h => s45_p35_ok K s w @h) (fun i => (tr_bif (fun s w h => s45_p1_ok K s w @h) tr_id)) (by kernel_rfl) (by kernel_rfl) @h
def s45_p37 (K : Value → World → Prop) (t2 t4 t5 t27 t36 : Value) (w : World) : Prop :=
  ifb t36
  (s45_p3 K t2 t4 t5 w)
  (s45_p36 K t2 t4 t5 t27 w)
def s45_p37_den (K : Value → World → Prop) : (Nat → Value) → World → Prop := fun s w => ifb (ev s (.tmp 36)) ((s45_p3_den K) s w) ((s45_p36_den K) s w)
theorem s45_p37_ok (K : Value → World → Prop) (s : Nat → Value) (w : World) (h : s45_p37 K (s 2) (s 4) (s 5) (s 27) (s 36) w) : Tr (s45_p37_den K s w) :=
  tr_cond (v := ev s (.tmp 36)) (a := (fun s w => s45_p3 K (s 2) (s 4) (s 5) w) s w) (a' := (s45_p3_den K) s w) (b := (fun s w => s45_p36 K (s 2) (s 4) (s 5) (s 27) w) s w) (b' := (s45_p36_den K) s w) (p := s45_p37 K (s 2) (s 4) (s 5) (s 27) (s 36) w) (q := s45_p37_den K s w) ((fun s w h => s45_p3_ok K s w @h) s w) ((fun s w h => s45_p36_ok K s w @h) s w) (by kernel_rfl) (by kernel_rfl) @h
def s45_p38 (K : Value → World → Prop) (t2 t4 t5 t27 : Value) (w : World) : Prop :=
  boI .eql t27 (.int .u8 6) (fun t37 w =>
  s45_p37 K t2 t4 t5 t27 t37 w) w
def s45_p38_den (K : Value → World → Prop) : (Nat → Value) → World → Prop := denL Tryz.prog [(cd (Tryz.f45.body.getD .skip) [1, 1, 1, 1, 1, 1, 0, 1, 0, 1, 1, 0])] (s45_p37_den K) (fun i => (bif Nat.beq i 0 then (s45_p1_den K) else (fun _ _ => False))) (s45_R K)
theorem s45_p38_ok (K : Value → World → Prop) (s : Nat → Value) (w : World) (h : s45_p38 K (s 2) (s 4) (s 5) (s 27) w) : Tr (s45_p38_den K s w) :=
  tr_simple (P := Tryz.prog) (codes := [(cd (Tryz.f45.body.getD .skip) [1, 1, 1, 1, 1, 1, 0, 1, 0, 1, 1, 0])]) (N := (fun s w => s45_p37 K (s 2) (s 4) (s 5) (s 27) (s 36) w)) (N' := (s45_p37_den K)) (X := (fun i => (bif Nat.beq i 0 then (fun s w => s45_p1 K (s 2) (s 4) (s 5) w) else (fun _ _ => False)))) (X' := (fun i => (bif Nat.beq i 0 then (s45_p1_den K) else (fun _ _ => False)))) (R := s45_R K) (s := s) (w := w) (p := s45_p38 K (s 2) (s 4) (s 5) (s 27) w) (q := s45_p38_den K s w) (fun s w h => s45_p37_ok K s w @h) (fun i => (tr_bif (fun s w h => s45_p1_ok K s w @h) tr_id)) (by kernel_rfl) (by kernel_rfl) @h
def s45_p39 (K : Value → World → Prop) (t2 t4 t5 t27 t29 : Value) (w : World) : Prop :=
  ifb t29
  (s45_p2 K t2 t4 t5 w)
  (s45_p38 K t2 t4 t5 t27 w)
def s45_p39_den (K : Value → World → Prop) : (Nat → Value) → World → Prop := fun s w => ifb (ev s (.tmp 29)) ((s45_p2_den K) s w) ((s45_p38_den K) s w)
theorem s45_p39_ok (K : Value → World → Prop) (s : Nat → Value) (w : World) (h : s45_p39 K (s 2) (s 4) (s 5) (s 27) (s 29) w) : Tr (s45_p39_den K s w) :=
  tr_cond (v := ev s (.tmp 29)) (a := (fun s w => s45_p2 K (s 2) (s 4) (s 5) w) s w) (a' := (s45_p2_den K) s w) (b := (fun s w => s45_p38 K (s 2) (s 4) (s 5) (s 27) w) s w) (b' := (s45_p38_den K) s w) (p := s45_p39 K (s 2) (s 4) (s 5) (s 27) (s 29) w) (q := s45_p39_den K s w) ((fun s w h => s45_p2_ok K s w @h) s w) ((fun s w h => s45_p38_ok K s w @h) s w) (by kernel_rfl) (by kernel_rfl) @h
def s45_p40 (K : Value → World → Prop) (t2 t4 t5 t27 : Value) (w : World) : Prop :=
  boI .eql t27 (.int .u8 1) (fun t30 w =>
  ifb t30
  (s45_p39 K t2 t4 t5 t27 t30 w)
  (boI .eql t27 (.int .u8 22) (fun t31 w =>
  s45_p39 K t2 t4 t5 t27 t31 w) w)) w
def s45_p40_den (K : Value → World → Prop) : (Nat → Value) → World → Prop := denL Tryz.prog [(cd (Tryz.f45.body.getD .skip) [1, 1, 1, 1, 1, 1, 0, 1, 0, 0, 0]), (cd (Tryz.f45.body.getD .skip) [1, 1, 1, 1, 1, 1, 0, 1, 0, 0, 1])] (s45_p39_den K) (fun i => (bif Nat.beq i 0 then (s45_p1_den K) else (fun _ _ => False))) (s45_R K)
theorem s45_p40_ok (K : Value → World → Prop) (s : Nat → Value) (w : World) (h : s45_p40 K (s 2) (s 4) (s 5) (s 27) w) : Tr (s45_p40_den K s w) :=
  tr_simple (P := Tryz.prog) (codes := [(cd (Tryz.f45.body.getD .skip) [1, 1, 1, 1, 1, 1, 0, 1, 0, 0, 0]), (cd (Tryz.f45.body.getD .skip) [1, 1, 1, 1, 1, 1, 0, 1, 0, 0, 1])]) (N := (fun s w => s45_p39 K (s 2) (s 4) (s 5) (s 27) (s 29) w)) (N' := (s45_p39_den K)) (X := (fun i => (bif Nat.beq i 0 then (fun s w => s45_p1 K (s 2) (s 4) (s 5) w) else (fun _ _ => False)))) (X' := (fun i => (bif Nat.beq i 0 then (s45_p1_den K) else (fun _ _ => False)))) (R := s45_R K) (s := s) (w := w) (p := s45_p40 K (s 2) (s 4) (s 5) (s 27) w) (q := s45_p40_den K s w) (fun s w h => s45_p39_ok K s w @h) (fun i => (tr_bif (fun s w h => s45_p1_ok K s w @h) tr_id)) (by kernel_rfl) (by kernel_rfl) @h
def s45_p41 (K : Value → World → Prop) (t0 : Value) (w : World) : Prop :=
  nw 94 #[(.int .i64 0), (.int .u8 0), (.int .i64 0), (.int .i64 0), (.int .i64 0), (.int .i64 0), (.int .i64 0), (.slice none 0 0), (.int .i64 0), (.int .i64 0), (.int .i64 0), (.slice none 0 0), (.int .i64 0), (.int .i64 0), (.int .i64 0), (.int .i64 0), (.int .i64 0), (.int .i64 0), (.slice none 0 0), (.int .i64 0), (.int .i64 0), (.int .i64 0), (.int .i64 0), (.int .i64 0), (.int .i64 0), (.int .i64 0), (.int .i64 0), (.int .i64 0), (.int .i64 0), (.int .i64 0), (.int .i64 0), (.int .i64 0), (.int .i64 0), (.int .i64 0)] (fun t2 w =>
  bdq [(.slice none 0 0), (.int .i64 0), (.bool false)] [(some (0, 1), t0)] (fun t9 w =>
  nw 139 #[(.slice none 0 0), (.int .i64 0), (.bool false)] (fun t4 w =>
  stn 3 t4 t9 (fun w =>
  cl Tryz.prog 104 #[t4] (fun t10 w =>
  cvi .i64 t10 (fun t11 w =>
  bdq [(.int .i64 0), (.int .u8 0), (.int .i64 0), (.int .i64 0), (.int .i64 0), (.int .i64 0), (.int .i64 0), (.slice none 0 0), (.int .i64 0), (.int .i64 0), (.int .i64 0), (.slice none 0 0), (.int .i64 0), (.int .i64 0), (.int .i64 0), (.int .i64 0), (.int .i64 0), (.int .i64 0), (.slice none 0 0), (.int .i64 0), (.int .i64 0), (.int .i64 0), (.int .i64 0), (.int .i64 0), (.int .i64 0), (.int .i64 0), (.int .i64 0), (.int .i64 0), (.int .i64 0), (.int .i64 0), (.int .i64 0), (.int .i64 0), (.int .i64 0), (.int .i64 0)] [(some (0, 1), t11)] (fun t12 w =>
  nw 94 #[(.int .i64 0), (.int .u8 0), (.int .i64 0), (.int .i64 0), (.int .i64 0), (.int .i64 0), (.int .i64 0), (.slice none 0 0), (.int .i64 0), (.int .i64 0), (.int .i64 0), (.slice none 0 0), (.int .i64 0), (.int .i64 0), (.int .i64 0), (.int .i64 0), (.int .i64 0), (.int .i64 0), (.slice none 0 0), (.int .i64 0), (.int .i64 0), (.int .i64 0), (.int .i64 0), (.int .i64 0), (.int .i64 0), (.int .i64 0), (.int .i64 0), (.int .i64 0), (.int .i64 0), (.int .i64 0), (.int .i64 0), (.int .i64 0), (.int .i64 0), (.int .i64 0)] (fun t5 w =>
  stn 34 t5 t12 (fun w =>
  fd 0 t5 (fun t13 w =>
  ld1 t13 (fun t14 w =>
  boI .geq t14 (.int .i64 23) (fun t15 w =>
  ifb t15
  (bdq [(.int .i64 0), (.int .u8 0), (.int .i64 0), (.int .i64 0), (.int .i64 0), (.int .i64 0), (.int .i64 0), (.slice none 0 0), (.int .i64 0), (.int .i64 0), (.int .i64 0), (.slice none 0 0), (.int .i64 0), (.int .i64 0), (.int .i64 0), (.int .i64 0), (.int .i64 0), (.int .i64 0), (.slice none 0 0), (.int .i64 0), (.int .i64 0), (.int .i64 0), (.int .i64 0), (.int .i64 0), (.int .i64 0), (.int .i64 0), (.int .i64 0), (.int .i64 0), (.int .i64 0), (.int .i64 0), (.int .i64 0), (.int .i64 0), (.int .i64 0), (.int .i64 0)] [] (fun t16 w =>
  stn 34 t2 t16 (fun w =>
  ldn 34 t2 (fun r0 _ =>
  K (.tuple #[r0, (.bool false)]) w) w) w) w)
  (fd 0 t5 (fun t17 w =>
  ld1 t17 (fun t18 w =>
  boI .neq t18 (.int .i64 0) (fun t19 w =>
  ifb t19
  (cl Tryz.prog 108 #[t4] (fun t20 w =>
  un .not t20 (fun t21 w =>
  ifb t21
  (bdq [(.int .i64 0), (.int .u8 0), (.int .i64 0), (.int .i64 0), (.int .i64 0), (.int .i64 0), (.int .i64 0), (.slice none 0 0), (.int .i64 0), (.int .i64 0), (.int .i64 0), (.slice none 0 0), (.int .i64 0), (.int .i64 0), (.int .i64 0), (.int .i64 0), (.int .i64 0), (.int .i64 0), (.slice none 0 0), (.int .i64 0), (.int .i64 0), (.int .i64 0), (.int .i64 0), (.int .i64 0), (.int .i64 0), (.int .i64 0), (.int .i64 0), (.int .i64 0), (.int .i64 0), (.int .i64 0), (.int .i64 0), (.int .i64 0), (.int .i64 0), (.int .i64 0)] [] (fun t22 w =>
  stn 34 t2 t22 (fun w =>
  ldn 34 t2 (fun r0 _ =>
  K (.tuple #[r0, (.bool false)]) w) w) w) w)
  (ldn 34 t5 (fun t23 w =>
  stn 34 t2 t23 (fun w =>
  ldn 34 t2 (fun r0 _ =>
  K (.tuple #[r0, (.bool true)]) w) w) w) w)) w) w)
  (cl Tryz.prog 104 #[t4] (fun t24 w =>
  fd 1 t5 (fun t25 w =>
  st1 t25 t24 (fun w =>
  fd 1 t5 (fun t26 w =>
  ld1 t26 (fun t27 w =>
  s45_p40 K t2 t4 t5 t27 w) w) w) w) w) w)) w) w) w)) w) w) w) w) w) w) w) w) w) w) w) w
def s45_p41_den (K : Value → World → Prop) : (Nat → Value) → World → Prop := denL Tryz.prog [(cd (Tryz.f45.body.getD .skip) [0]), (cd (Tryz.f45.body.getD .skip) [1, 0]), (cd (Tryz.f45.body.getD .skip) [1, 1, 0]), (cd (Tryz.f45.body.getD .skip) [1, 1, 1, 0, 0]), (cd (Tryz.f45.body.getD .skip) [1, 1, 1, 0, 1]), (cd (Tryz.f45.body.getD .skip) [1, 1, 1, 1, 0, 0]), (cd (Tryz.f45.body.getD .skip) [1, 1, 1, 1, 0, 1]), (cd (Tryz.f45.body.getD .skip) [1, 1, 1, 1, 1, 0]), (cd (Tryz.f45.body.getD .skip) [1, 1, 1, 1, 1, 1, 0, 0])] (s45_p40_den K) (fun i => (fun _ _ => False)) (s45_R K)
theorem s45_p41_ok (K : Value → World → Prop) (s : Nat → Value) (w : World) (h : s45_p41 K (s 0) w) : Tr (s45_p41_den K s w) :=
  tr_simple (P := Tryz.prog) (codes := [(cd (Tryz.f45.body.getD .skip) [0]), (cd (Tryz.f45.body.getD .skip) [1, 0]), (cd (Tryz.f45.body.getD .skip) [1, 1, 0]), (cd (Tryz.f45.body.getD .skip) [1, 1, 1, 0, 0]), (cd (Tryz.f45.body.getD .skip) [1, 1, 1, 0, 1]), (cd (Tryz.f45.body.getD .skip) [1, 1, 1, 1, 0, 0]), (cd (Tryz.f45.body.getD .skip) [1, 1, 1, 1, 0, 1]), (cd (Tryz.f45.body.getD .skip) [1, 1, 1, 1, 1, 0]), (cd (Tryz.f45.body.getD .skip) [1, 1, 1, 1, 1, 1, 0, 0])]) (N := (fun s w => s45_p40 K (s 2) (s 4) (s 5) (s 27) w)) (N' := (s45_p40_den K)) (X := (fun i => (fun _ _ => False))) (X' := (fun i => (fun _ _ => False))) (R := s45_R K) (s := s) (w := w) (p := s45_p41 K (s 0) w) (q := s45_p41_den K s w) (fun s w h => s45_p40_ok K s w @h) (fun i => tr_id) (by kernel_rfl) (by kernel_rfl) @h
/-- the call, from the text -/
theorem c45 (t0 : Value) {K : Value → World → Prop} {w : World} (h : s45_p41 K t0 w) : cl Tryz.prog 45 #[t0] K w :=
  calls_of_tr (c := (Tryz.f45.body.getD .skip)) (fn := Tryz.f45) (q := s45_p41_den K (st0 #[t0]) w) Tryz.func45 (by kernel_rfl) (by kernel_rfl) (Nat.le_of_ble_eq_true (by kernel_rfl)) (by kernel_rfl) (by kernel_rfl) (s45_p41_ok K (st0 #[t0]) w @h)

/-! ### function 175 : e2e.engine.parseEntry -/
def s175_R (K : Value → World → Prop) (s : Nat → Value) (w : World) : Prop := retv Tryz.prog s Tryz.f175.results.toList (fun vs => K (pack vs) w) w
def s175_p1 (K : Value → World → Prop) (t2 t3 t4 : Value) (w : World) : Prop :=
  ldn 8 t3 (fun r1 _ =>
  K (.tuple #[t2, r1, t4]) w) w
def s175_p1_den (K : Value → World → Prop) : (Nat → Value) → World → Prop := denL Tryz.prog [(cd (Tryz.f175.body.getD .skip) [1, 1, 1, 1, 1, 1])] (fun _ _ => False) (fun i => (fun _ _ => False)) (s175_R K)
theorem s175_p1_ok (K : Value → World → Prop) (s : Nat → Value) (w : World) (h : s175_p1 K (s 2) (s 3) (s 4) w) : Tr (s175_p1_den K s w) :=
  tr_simple (P := Tryz.prog) (codes := [(cd (Tryz.f175.body.getD .skip) [1, 1, 1, 1, 1, 1])]) (N := (fun _ _ => False)) (N' := (fun _ _ => False)) (X := (fun i => (fun _ _ => False))) (X' := (fun i => (fun _ _ => False))) (R := s175_R K) (s := s) (w := w) (p := s175_p1 K (s 2) (s 3) (s 4) w) (q := s175_p1_den K s w) tr_id (fun i => tr_id) (by kernel_rfl) (by kernel_rfl) @h
def s175_p2_d (K : Value → World → Prop) (t2 t3 t6 : Value) (w : World) : Prop :=
  ((ldn 8 t3 (fun t19 w =>
  (boI .eql t6 (.int .i64 0) (fun t21 w =>
  stn 8 t3 t19 (fun w =>
  s175_p1 K t2 t3 t21 w) w) w) ∧
  ((boI .eql t6 (.int .i64 0) (fun t21_2 w =>
  stn 8 t3 t19 (fun w =>
  s175_p1 K t2 t3 t21_2 w) w) w) ∧
  (stn 8 t3 t19 (fun w =>
  boI .eql t6 (.int .i64 0) (fun t21_3 w =>
  s175_p1 K t2 t3 t21_3 w) w) w))) w) ∧
  (boI .eql t6 (.int .i64 0) (fun t21_4 w =>
  (ldn 8 t3 (fun t19_2 w =>
  stn 8 t3 t19_2 (fun w =>
  s175_p1 K t2 t3 t21_4 w) w) w) ∧
  (ldn 8 t3 (fun t19_3 w =>
  stn 8 t3 t19_3 (fun w =>
  s175_p1 K t2 t3 t21_4 w) w) w)) w) ∧
  ((ldn 8 t3 (fun t19_4 w =>
  (boI .eql t6 (.int .i64 0) (fun t21_5 w =>
  stn 8 t3 t19_4 (fun w =>
  s175_p1 K t2 t3 t21_5 w) w) w) ∧
  (stn 8 t3 t19_4 (fun w =>
  boI .eql t6 (.int .i64 0) (fun t21_6 w =>
  s175_p1 K t2 t3 t21_6 w) w) w)) w) ∧
  (boI .eql t6 (.int .i64 0) (fun t21_7 w =>
  ldn 8 t3 (fun t19_5 w =>
  stn 8 t3 t19_5 (fun w =>
  s175_p1 K t2 t3 t21_7 w) w) w) w))) ∧
  (ldn 8 t3 (fun t19_6 w =>
  ((boI .eql t6 (.int .i64 0) (fun t21_8 w =>
  stn 8 t3 t19_6 (fun w =>
  s175_p1 K t2 t3 t21_8 w) w) w) ∧
  ((boI .eql t6 (.int .i64 0) (fun t21_9 w =>
  stn 8 t3 t19_6 (fun w =>
  s175_p1 K t2 t3 t21_9 w) w) w) ∧
  (stn 8 t3 t19_6 (fun w =>
  boI .eql t6 (.int .i64 0) (fun t21_10 w =>
  s175_p1 K t2 t3 t21_10 w) w) w))) ∧
  (boI .eql t6 (.int .i64 0) (fun t21_11 w =>
  stn 8 t3 t19_6 (fun w =>
  s175_p1 K t2 t3 t21_11 w) w) w)) w) ∧
  (boI .eql t6 (.int .i64 0) (fun t21_12 w =>
  ((ldn 8 t3 (fun t19_7 w =>
  stn 8 t3 t19_7 (fun w =>
  s175_p1 K t2 t3 t21_12 w) w) w) ∧
  (ldn 8 t3 (fun t19_8 w =>
  stn 8 t3 t19_8 (fun w =>
  s175_p1 K t2 t3 t21_12 w) w) w)) ∧
  (ldn 8 t3 (fun t19_9 w =>
  stn 8 t3 t19_9 (fun w =>
  s175_p1 K t2 t3 t21_12 w) w) w)) w)
def s175_p2 (K : Value → World → Prop) (t2 t3 t6 : Value) (w : World) : Prop := s175_p2_d K t2 t3 t6 (drw w)
def s175_p2_den (K : Value → World → Prop) : (Nat → Value) → World → Prop := denL Tryz.prog [(cd (Tryz.f175.body.getD .skip) [1, 1, 1, 1, 1, 0])] (s175_p1_den K) (fun i => (fun _ _ => False)) (s175_R K)
theorem s175_p2_ok (K : Value → World → Prop) (s : Nat → Value) (w : World) (h : s175_p2 K (s 2) (s 3) (s 6) w) : Tr (s175_p2_den K s w) :=
  tr_draw (P := Tryz.prog) (ops := (ro (cd (Tryz.f175.body.getD .skip) [1, 1, 1, 1, 1, 0]))) (ms := [0, 0, 0, 4, 1, 19, 63]) (cs := [2]) (N := (fun s w => s175_p1 K (s 2) (s 3) (s 4) w)) (N' := (s175_p1_den K)) (s := s) (w := w) (p := s175_p2 K (s 2) (s 3) (s 6) w) (q := s175_p2_den K s w) (by kernel_rfl) (by kernel_rfl) (fun s w h => s175_p1_ok K s w @h) (by kernel_rfl) (by kernel_rfl) @h
def s175_p3 (K : Value → World → Prop) (t0 : Value) (w : World) : Prop :=
  nw 52 #[(.int .u8 0), (.int .i64 0), (.int .i64 0), (.int .i64 0), (.int .i64 0), (.int .i64 0), (.int .i64 0), (.slice none 0 0)] (fun t3 w =>
  bdq [(.slice none 0 0), (.int .i64 0), (.bool false)] [(some (0, 1), t0)] (fun t8 w =>
  nw 139 #[(.slice none 0 0), (.int .i64 0), (.bool false)] (fun t5 w =>
  stn 3 t5 t8 (fun w =>
  cl Tryz.prog 105 #[t5] (fun t9 w =>
  fd 2 t5 (fun t10 w =>
  ld1 t10 (fun t11 w =>
  ifb t11
  (bdq [(.int .u8 0), (.int .i64 0), (.int .i64 0), (.int .i64 0), (.int .i64 0), (.int .i64 0), (.int .i64 0), (.slice none 0 0)] [] (fun t12 w =>
  stn 8 t3 t12 (fun w =>
  ldn 8 t3 (fun r1 _ =>
  K (.tuple #[(.int .i64 0), r1, (.bool false)]) w) w) w) w)
  (cl Tryz.prog 201 #[t5] (fun t14 w =>
  cl Tryz.prog 28 #[t14] (fun t15 w =>
  exq t15 0 (fun t16 w =>
  exq t15 1 (fun t17 w =>
  stn 8 t3 t16 (fun w =>
  s175_p2 K t9 t3 t17 w) w) w) w) w) w)) w) w) w) w) w) w) w
def s175_p3_den (K : Value → World → Prop) : (Nat → Value) → World → Prop := denL Tryz.prog [(cd (Tryz.f175.body.getD .skip) [0]), (cd (Tryz.f175.body.getD .skip) [1, 0]), (cd (Tryz.f175.body.getD .skip) [1, 1, 0]), (cd (Tryz.f175.body.getD .skip) [1, 1, 1, 0, 0]), (cd (Tryz.f175.body.getD .skip) [1, 1, 1, 0, 1]), (cd (Tryz.f175.body.getD .skip) [1, 1, 1, 1, 0])] (s175_p2_den K) (fun i => (fun _ _ => False)) (s175_R K)
theorem s175_p3_ok (K : Value → World → Prop) (s : Nat → Value) (w : World) (h : s175_p3 K (s 0) w) : Tr (s175_p3_den K s w) :=
  tr_simple (P := Tryz.prog) (codes := [(cd (Tryz.f175.body.getD .skip) [0]), (cd (Tryz.f175.body.getD .skip) [1, 0]), (cd (Tryz.f175.body.getD .skip) [1, 1, 0]), (cd (Tryz.f175.body.getD .skip) [1, 1, 1, 0, 0]), (cd (Tryz.f175.body.getD .skip) [1, 1, 1, 0, 1]), (cd (Tryz.f175.body.getD .skip) [1, 1, 1, 1, 0])]) (N := (fun s w => s175_p2 K (s 2) (s 3) (s 6) w)) (N' := (s175_p2_den K)) (X := (fun i => (fun _ _ => False))) (X' := (fun i => (fun _ _ => False))) (R := s175_R K) (s := s) (w := w) (p := s175_p3 K (s 0) w) (q := s175_p3_den K s w) (fun s w h => s175_p2_ok K s w @h) (fun i => tr_id) (by kernel_rfl) (by kernel_rfl) @h
/-- the call, from the text -/
theorem c175 (t0 : Value) {K : Value → World → Prop} {w : World} (h : s175_p3 K t0 w) : cl Tryz.prog 175 #[t0] K w :=
  calls_of_tr (c := (Tryz.f175.body.getD .skip)) (fn := Tryz.f175) (q := s175_p3_den K (st0 #[t0]) w) Tryz.func175 (by kernel_rfl) (by kernel_rfl) (Nat.le_of_ble_eq_true (by kernel_rfl)) (by kernel_rfl) (by kernel_rfl) (s175_p3_ok K (st0 #[t0]) w @h)

/-! ### function 224 : e2e.engine.appendEntry -/
def s224_R (K : Value → World → Prop) (s : Nat → Value) (w : World) : Prop := retv Tryz.prog s Tryz.f224.results.toList (fun vs => K (pack vs) w) w
def s224_p1 (K : Value → World → Prop) (t0 t1 t2 : Value) (w : World) : Prop :=
  nw 52 (t2).cells (fun t5 w =>
  cl Tryz.prog 136 #[t0, t1] (fun t9 w =>
  ldn 8 t5 (fun t12 w =>
  cl Tryz.prog 182 #[t9, t12] (fun t13 w =>
  exq t13 0 (fun t14 w =>
  exq t13 1 (fun t15 w =>
  K t14 w) w) w) w) w) w) w
def s224_p1_den (K : Value → World → Prop) : (Nat → Value) → World → Prop := denL Tryz.prog [(cd (Tryz.f224.body.getD .skip) [0]), (cd (Tryz.f224.body.getD .skip) [1, 0]), (cd (Tryz.f224.body.getD .skip) [1, 1, 0]), (cd (Tryz.f224.body.getD .skip) [1, 1, 1, 0]), (cd (Tryz.f224.body.getD .skip) [1, 1, 1, 1])] (fun _ _ => False) (fun i => (fun _ _ => False)) (s224_R K)
theorem s224_p1_ok (K : Value → World → Prop) (s : Nat → Value) (w : World) (h : s224_p1 K (s 0) (s 1) (s 2) w) : Tr (s224_p1_den K s w) :=
  tr_simple (P := Tryz.prog) (codes := [(cd (Tryz.f224.body.getD .skip) [0]), (cd (Tryz.f224.body.getD .skip) [1, 0]), (cd (Tryz.f224.body.getD .skip) [1, 1, 0]), (cd (Tryz.f224.body.getD .skip) [1, 1, 1, 0]), (cd (Tryz.f224.body.getD .skip) [1, 1, 1, 1])]) (N := (fun _ _ => False)) (N' := (fun _ _ => False)) (X := (fun i => (fun _ _ => False))) (X' := (fun i => (fun _ _ => False))) (R := s224_R K) (s := s) (w := w) (p := s224_p1 K (s 0) (s 1) (s 2) w) (q := s224_p1_den K s w) tr_id (fun i => tr_id) (by kernel_rfl) (by kernel_rfl) @h
/-- the call, from the text -/
theorem c224 (t0 t1 t2 : Value) {K : Value → World → Prop} {w : World} (h : s224_p1 K t0 t1 t2 w) : cl Tryz.prog 224 #[t0, t1, t2] K w :=
  calls_of_tr (c := (Tryz.f224.body.getD .skip)) (fn := Tryz.f224) (q := s224_p1_den K (st0 #[t0, t1, t2]) w) Tryz.func224 (by kernel_rfl) (by kernel_rfl) (Nat.le_of_ble_eq_true (by kernel_rfl)) (by kernel_rfl) (by kernel_rfl) (s224_p1_ok K (st0 #[t0, t1, t2]) w @h)

end Go.Proofs.Qxb6500896aGreat
