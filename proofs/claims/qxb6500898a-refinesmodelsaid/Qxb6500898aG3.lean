import Derived.Test.Qxb6500898aProg
import Derived.Test.Qxb6500898aShMix3
namespace Go.Proofs.Qxb6500898a
open Go.Sh Go.RowKit
set_option linter.unusedVariables false
set_option maxRecDepth 100000

/-! ### function 3 : e2e.octetslaw.RefinesModel -/
def r3_R (K : Value → World → Prop) (s : Nat → Value) (w : World) : Prop := retv Try.prog s Try.f3.results.toList (fun vs => K (pack vs) w) w
def r3_p1 (K : Value → World → Prop) (w : World) : Prop :=
  K (.bool true) w
def r3_p1_den (K : Value → World → Prop) : (Nat → Value) → World → Prop := denL Try.prog [(cd (Try.f3.body.getD .skip) [1, 1, 1, 1, 1, 0]), (cd (Try.f3.body.getD .skip) [1, 1, 1, 1, 1, 1])] (fun _ _ => False) (fun i => (fun _ _ => False)) (r3_R K)
theorem r3_p1_ok (K : Value → World → Prop) (s : Nat → Value) (w : World) (h : r3_p1 K w) : Tr (r3_p1_den K s w) :=
  tr_simple (P := Try.prog) (codes := [(cd (Try.f3.body.getD .skip) [1, 1, 1, 1, 1, 0]), (cd (Try.f3.body.getD .skip) [1, 1, 1, 1, 1, 1])]) (N := (fun _ _ => False)) (N' := (fun _ _ => False)) (X := (fun i => (fun _ _ => False))) (X' := (fun i => (fun _ _ => False))) (R := r3_R K) (s := s) (w := w) (p := r3_p1 K w) (q := r3_p1_den K s w) tr_id (fun i => tr_id) (by kernel_rfl) (by kernel_rfl) @h
def r3_p2 (K : Value → World → Prop) (B1 : List Value → World → Prop) (t3 t4 t11 t12 t13 : Value) (w : World) : Prop :=
  boI .add t13 (.int .i64 1) (fun t35 w =>
  B1 [t3, t4, t11, t12, t35] w) w
def r3_p2_den (K : Value → World → Prop) (M1 : (Nat → Value) → World → Prop) : (Nat → Value) → World → Prop := denL Try.prog [(cd (Try.f3.body.getD .skip) [1, 1, 1, 1, 0, 1, 0, 0, 1, 1, 1])] M1 (fun i => (bif Nat.beq i 0 then (r3_p1_den K) else (fun _ _ => False))) (r3_R K)
theorem r3_p2_ok (K : Value → World → Prop) (B1 : List Value → World → Prop) (s : Nat → Value) (w : World) (h : r3_p2 K B1 (s 3) (s 4) (s 11) (s 12) (s 13) w) : Tr (r3_p2_den K (fun s w => B1 [s 3, s 4, s 11, s 12, s 13] w) s w) :=
  tr_simple (P := Try.prog) (codes := [(cd (Try.f3.body.getD .skip) [1, 1, 1, 1, 0, 1, 0, 0, 1, 1, 1])]) (N := (fun s w => B1 [s 3, s 4, s 11, s 12, s 13] w)) (N' := (fun s w => B1 [s 3, s 4, s 11, s 12, s 13] w)) (X := (fun i => (bif Nat.beq i 0 then (fun s w => r3_p1 K w) else (fun _ _ => False)))) (X' := (fun i => (bif Nat.beq i 0 then (r3_p1_den K) else (fun _ _ => False)))) (R := r3_R K) (s := s) (w := w) (p := r3_p2 K B1 (s 3) (s 4) (s 11) (s 12) (s 13) w) (q := r3_p2_den K (fun s w => B1 [s 3, s 4, s 11, s 12, s 13] w) s w) tr_id (fun i => (tr_bif (fun s w h => r3_p1_ok K s w @h) tr_id)) (by kernel_rfl) (by kernel_rfl) @h
def r3_p3 (K : Value → World → Prop) (B1 : List Value → World → Prop) (t3 t4 t6 t7 t11 t12 t13 t25 : Value) (w : World) : Prop :=
  ifb t25
  (K (.bool false) w)
  (cl Try.prog 16 #[t3] (fun t26 w =>
  cl Try.prog 17 #[t4] (fun t27 w =>
  cl Try.prog 15 #[t26, t27] (fun t28 w =>
  un .not t28 (fun t29 w =>
  ifb t29
  (K (.bool false) w)
  (fd 5 t6 (fun t30 w =>
  ld1 t30 (fun t31 w =>
  cl Try.prog 18 #[t31, t7] (fun t33 w =>
  un .not t33 (fun t34 w =>
  ifb t34
  (K (.bool false) w)
  (r3_p2 K B1 t3 t4 t11 t12 t13 w)) w) w) w) w)) w) w) w) w)
def r3_p3_den (K : Value → World → Prop) (M1 : (Nat → Value) → World → Prop) : (Nat → Value) → World → Prop := denL Try.prog [(cd (Try.f3.body.getD .skip) [1, 1, 1, 1, 0, 1, 0, 0, 1, 1, 0, 0, 1, 1, 0, 1]), (cd (Try.f3.body.getD .skip) [1, 1, 1, 1, 0, 1, 0, 0, 1, 1, 0, 0, 1, 1, 1, 0, 0]), (cd (Try.f3.body.getD .skip) [1, 1, 1, 1, 0, 1, 0, 0, 1, 1, 0, 0, 1, 1, 1, 0, 1]), (cd (Try.f3.body.getD .skip) [1, 1, 1, 1, 0, 1, 0, 0, 1, 1, 0, 0, 1, 1, 1, 1, 0]), (cd (Try.f3.body.getD .skip) [1, 1, 1, 1, 0, 1, 0, 0, 1, 1, 0, 0, 1, 1, 1, 1, 1])] (r3_p2_den K M1) (fun i => (bif Nat.beq i 1 then (r3_p2_den K M1) else (bif Nat.beq i 0 then (r3_p1_den K) else (fun _ _ => False)))) (r3_R K)
theorem r3_p3_ok (K : Value → World → Prop) (B1 : List Value → World → Prop) (s : Nat → Value) (w : World) (h : r3_p3 K B1 (s 3) (s 4) (s 6) (s 7) (s 11) (s 12) (s 13) (s 25) w) : Tr (r3_p3_den K (fun s w => B1 [s 3, s 4, s 11, s 12, s 13] w) s w) :=
  tr_simple (P := Try.prog) (codes := [(cd (Try.f3.body.getD .skip) [1, 1, 1, 1, 0, 1, 0, 0, 1, 1, 0, 0, 1, 1, 0, 1]), (cd (Try.f3.body.getD .skip) [1, 1, 1, 1, 0, 1, 0, 0, 1, 1, 0, 0, 1, 1, 1, 0, 0]), (cd (Try.f3.body.getD .skip) [1, 1, 1, 1, 0, 1, 0, 0, 1, 1, 0, 0, 1, 1, 1, 0, 1]), (cd (Try.f3.body.getD .skip) [1, 1, 1, 1, 0, 1, 0, 0, 1, 1, 0, 0, 1, 1, 1, 1, 0]), (cd (Try.f3.body.getD .skip) [1, 1, 1, 1, 0, 1, 0, 0, 1, 1, 0, 0, 1, 1, 1, 1, 1])]) (N := (fun s w => r3_p2 K B1 (s 3) (s 4) (s 11) (s 12) (s 13) w)) (N' := (r3_p2_den K (fun s w => B1 [s 3, s 4, s 11, s 12, s 13] w))) (X := (fun i => (bif Nat.beq i 1 then (fun s w => r3_p2 K B1 (s 3) (s 4) (s 11) (s 12) (s 13) w) else (bif Nat.beq i 0 then (fun s w => r3_p1 K w) else (fun _ _ => False))))) (X' := (fun i => (bif Nat.beq i 1 then (r3_p2_den K (fun s w => B1 [s 3, s 4, s 11, s 12, s 13] w)) else (bif Nat.beq i 0 then (r3_p1_den K) else (fun _ _ => False))))) (R := r3_R K) (s := s) (w := w) (p := r3_p3 K B1 (s 3) (s 4) (s 6) (s 7) (s 11) (s 12) (s 13) (s 25) w) (q := r3_p3_den K (fun s w => B1 [s 3, s 4, s 11, s 12, s 13] w) s w) (fun s w h => r3_p2_ok K B1 s w @h) (fun i => (tr_bif (fun s w h => r3_p2_ok K B1 s w @h) (tr_bif (fun s w h => r3_p1_ok K s w @h) tr_id))) (by kernel_rfl) (by kernel_rfl) @h
def r3_p4_d (K : Value → World → Prop) (B1 : List Value → World → Prop) (J : World → Prop) (t3 t4 t6 t7 t11 t12 t13 : Value) (w0 w : World) : Prop :=
  Go.Sh.R.qw J (ldn 6 t6) (fun t20 =>
  Go.Sh.R.qw J (ldn 6 t6) (fun t22 =>
  cl Try.prog 13 #[t3, t20] (fun t21 w =>
  J w ∧
  cl Try.prog 14 #[t4, t22] (fun t23 w =>
  cl Try.prog 12 #[t21, t23] (fun t24 w =>
  un .not t24 (fun t25 w =>
  r3_p3 K B1 t3 t4 t6 t7 t11 t12 t13 t25 w) w) w) w) w))
def r3_p4 (K : Value → World → Prop) (B1 : List Value → World → Prop) (t3 t4 t6 t7 t11 t12 t13 : Value) (w : World) : Prop := ∃ J : World → Prop, J (drw w) ∧ r3_p4_d K B1 J t3 t4 t6 t7 t11 t12 t13 (drw w) (drw w)
def r3_p4_den (K : Value → World → Prop) (M1 : (Nat → Value) → World → Prop) : (Nat → Value) → World → Prop := denL Try.prog [(cd (Try.f3.body.getD .skip) [1, 1, 1, 1, 0, 1, 0, 0, 1, 1, 0, 0, 1, 1, 0, 0])] (r3_p3_den K M1) (fun i => (bif Nat.beq i 1 then (r3_p2_den K M1) else (bif Nat.beq i 0 then (r3_p1_den K) else (fun _ _ => False)))) (r3_R K)
theorem r3_p4_ok (K : Value → World → Prop) (B1 : List Value → World → Prop) (s : Nat → Value) (w : World) (h : r3_p4 K B1 (s 3) (s 4) (s 6) (s 7) (s 11) (s 12) (s 13) w) : Tr (r3_p4_den K (fun s w => B1 [s 3, s 4, s 11, s 12, s 13] w) s w) :=
  Go.Sh.R.tr_drawR (P := Try.prog) (ops := (ro (cd (Try.f3.body.getD .skip) [1, 1, 1, 1, 0, 1, 0, 0, 1, 1, 0, 0, 1, 1, 0, 0]))) (ms := [0, 1, 0, 7, 15, 31]) (cs := [0, 2]) (N := (fun s w => r3_p3 K B1 (s 3) (s 4) (s 6) (s 7) (s 11) (s 12) (s 13) (s 25) w)) (N' := (r3_p3_den K (fun s w => B1 [s 3, s 4, s 11, s 12, s 13] w))) (s := s) (w := w) (p := fun J => r3_p4_d K B1 J (s 3) (s 4) (s 6) (s 7) (s 11) (s 12) (s 13) (drw w) (drw w)) (q := r3_p4_den K (fun s w => B1 [s 3, s 4, s 11, s 12, s 13] w) s w) (by kernel_rfl) (by kernel_rfl) (fun s w h => r3_p3_ok K B1 s w @h) (by kernel_rfl) (by kernel_rfl) @h
def r3_p5 (K : Value → World → Prop) (B1 : List Value → World → Prop) (t3 t4 t11 t12 t13 : Value) (w : World) : Prop :=
  ixs 6 t11 t13 (fun t15 w =>
  ldn 6 t15 (fun t16 w =>
  nw 34 #[(.int .i64 0), (.int .i64 0), (.bool false), (.int .i64 0), (.int .u64 0), (.slice none 0 0)] (fun t6 w =>
  stn 6 t6 t16 (fun w =>
  fd 5 t6 (fun t17 w =>
  ld1 t17 (fun t18 w =>
  cl Try.prog 11 #[t18] (fun t19 w =>
  r3_p4 K B1 t3 t4 t6 t19 t11 t12 t13 w) w) w) w) w) w) w) w
def r3_p5_den (K : Value → World → Prop) (M1 : (Nat → Value) → World → Prop) : (Nat → Value) → World → Prop := denL Try.prog [(cd (Try.f3.body.getD .skip) [1, 1, 1, 1, 0, 1, 0, 0, 1, 1, 0, 0, 0]), (cd (Try.f3.body.getD .skip) [1, 1, 1, 1, 0, 1, 0, 0, 1, 1, 0, 0, 1, 0])] (r3_p4_den K M1) (fun i => (bif Nat.beq i 1 then (r3_p2_den K M1) else (bif Nat.beq i 0 then (r3_p1_den K) else (fun _ _ => False)))) (r3_R K)
theorem r3_p5_ok (K : Value → World → Prop) (B1 : List Value → World → Prop) (s : Nat → Value) (w : World) (h : r3_p5 K B1 (s 3) (s 4) (s 11) (s 12) (s 13) w) : Tr (r3_p5_den K (fun s w => B1 [s 3, s 4, s 11, s 12, s 13] w) s w) :=
  tr_simple (P := Try.prog) (codes := [(cd (Try.f3.body.getD .skip) [1, 1, 1, 1, 0, 1, 0, 0, 1, 1, 0, 0, 0]), (cd (Try.f3.body.getD .skip) [1, 1, 1, 1, 0, 1, 0, 0, 1, 1, 0, 0, 1, 0])]) (N := (fun s w => r3_p4 K B1 (s 3) (s 4) (s 6) (s 7) (s 11) (s 12) (s 13) w)) (N' := (r3_p4_den K (fun s w => B1 [s 3, s 4, s 11, s 12, s 13] w))) (X := (fun i => (bif Nat.beq i 1 then (fun s w => r3_p2 K B1 (s 3) (s 4) (s 11) (s 12) (s 13) w) else (bif Nat.beq i 0 then (fun s w => r3_p1 K w) else (fun _ _ => False))))) (X' := (fun i => (bif Nat.beq i 1 then (r3_p2_den K (fun s w => B1 [s 3, s 4, s 11, s 12, s 13] w)) else (bif Nat.beq i 0 then (r3_p1_den K) else (fun _ _ => False))))) (R := r3_R K) (s := s) (w := w) (p := r3_p5 K B1 (s 3) (s 4) (s 11) (s 12) (s 13) w) (q := r3_p5_den K (fun s w => B1 [s 3, s 4, s 11, s 12, s 13] w) s w) (fun s w h => r3_p4_ok K B1 s w @h) (fun i => (tr_bif (fun s w h => r3_p2_ok K B1 s w @h) (tr_bif (fun s w h => r3_p1_ok K s w @h) tr_id))) (by kernel_rfl) (by kernel_rfl) @h
def r3_p6 (K : Value → World → Prop) (B1 : List Value → World → Prop) (t3 t4 t11 t12 t13 : Value) (w : World) : Prop :=
  boI .lss t13 t12 (fun t14 w =>
  ifb t14
  (r3_p5 K B1 t3 t4 t11 t12 t13 w)
  (r3_p1 K w)) w
def r3_p6_den (K : Value → World → Prop) (M1 : (Nat → Value) → World → Prop) : (Nat → Value) → World → Prop := denL Try.prog [(cd (Try.f3.body.getD .skip) [1, 1, 1, 1, 0, 1, 0, 0, 0]), (cd (Try.f3.body.getD .skip) [1, 1, 1, 1, 0, 1, 0, 0, 1, 0])] (r3_p5_den K M1) (fun i => (bif Nat.beq i 0 then (r3_p1_den K) else (fun _ _ => False))) (r3_R K)
theorem r3_p6_ok (K : Value → World → Prop) (B1 : List Value → World → Prop) (s : Nat → Value) (w : World) (h : r3_p6 K B1 (s 3) (s 4) (s 11) (s 12) (s 13) w) : Tr (r3_p6_den K (fun s w => B1 [s 3, s 4, s 11, s 12, s 13] w) s w) :=
  tr_simple (P := Try.prog) (codes := [(cd (Try.f3.body.getD .skip) [1, 1, 1, 1, 0, 1, 0, 0, 0]), (cd (Try.f3.body.getD .skip) [1, 1, 1, 1, 0, 1, 0, 0, 1, 0])]) (N := (fun s w => r3_p5 K B1 (s 3) (s 4) (s 11) (s 12) (s 13) w)) (N' := (r3_p5_den K (fun s w => B1 [s 3, s 4, s 11, s 12, s 13] w))) (X := (fun i => (bif Nat.beq i 0 then (fun s w => r3_p1 K w) else (fun _ _ => False)))) (X' := (fun i => (bif Nat.beq i 0 then (r3_p1_den K) else (fun _ _ => False)))) (R := r3_R K) (s := s) (w := w) (p := r3_p6 K B1 (s 3) (s 4) (s 11) (s 12) (s 13) w) (q := r3_p6_den K (fun s w => B1 [s 3, s 4, s 11, s 12, s 13] w) s w) (fun s w h => r3_p5_ok K B1 s w @h) (fun i => (tr_bif (fun s w h => r3_p1_ok K s w @h) tr_id)) (by kernel_rfl) (by kernel_rfl) @h
def r3_p7_F (K : Value → World → Prop) (B1 : List Value → World → Prop) (l : List Value) (w : World) : Prop :=
  match l with
  | [t3, t4, t11, t12, t13] => r3_p6 K B1 t3 t4 t11 t12 t13 w
  | _ => False
theorem r3_p7_Fe {K : Value → World → Prop} {B1 : List Value → World → Prop} {t3 t4 t11 t12 t13 : Value} {w : World} : r3_p7_F K B1 [t3, t4, t11, t12, t13] w = r3_p6 K B1 t3 t4 t11 t12 t13 w := by kernel_rfl
def r3_p7 (K : Value → World → Prop) (t3 t4 t11 t12 t13 : Value) (w : World) : Prop :=
  LoopL (r3_p7_F K) [t3, t4, t11, t12, t13] w
def r3_p7_den (K : Value → World → Prop) : (Nat → Value) → World → Prop := fun s w => LoopP (fun M1 s w => r3_p6_den K M1 s w) s w
theorem r3_p7_ok (K : Value → World → Prop) (s : Nat → Value) (w : World) (h : r3_p7 K (s 3) (s 4) (s 11) (s 12) (s 13) w) : Tr (r3_p7_den K s w) :=
  tr_loop (G := fun N' s w => r3_p6_den K N' s w) (F := r3_p7_F K) (sel := fun s => [s 3, s 4, s 11, s 12, s 13]) (s := s) (w := w) (p := r3_p7 K (s 3) (s 4) (s 11) (s 12) (s 13) w) (q := r3_p7_den K s w) (fun B s w h => r3_p6_ok K B s w @h) (by kernel_rfl) (by kernel_rfl) @h
def r3_p8 (K : Value → World → Prop) (t0 : Value) (w : World) : Prop :=
  cl Try.prog 10 #[t0] (fun t9 w =>
  un .not t9 (fun t10 w =>
  ifb t10
  (K (.bool true) w)
  (nw 28 #[(.slice none 0 0), (.slice none 0 0), (.int .i64 0), (.bool false)] (fun t3 w =>
  nw 30 #[(.slice none 0 0), (.slice none 0 0), (.bool false)] (fun t4 w =>
  lnS t0 (fun t12 w =>
  r3_p7 K t3 t4 t0 t12 (.int .i64 0) w) w) w) w)) w) w
def r3_p8_den (K : Value → World → Prop) : (Nat → Value) → World → Prop := denL Try.prog [(cd (Try.f3.body.getD .skip) [0]), (cd (Try.f3.body.getD .skip) [1, 0, 0]), (cd (Try.f3.body.getD .skip) [1, 0, 1]), (cd (Try.f3.body.getD .skip) [1, 1, 0]), (cd (Try.f3.body.getD .skip) [1, 1, 1, 0]), (cd (Try.f3.body.getD .skip) [1, 1, 1, 1, 0, 0])] (r3_p7_den K) (fun i => (fun _ _ => False)) (r3_R K)
theorem r3_p8_ok (K : Value → World → Prop) (s : Nat → Value) (w : World) (h : r3_p8 K (s 0) w) : Tr (r3_p8_den K s w) :=
  tr_simple (P := Try.prog) (codes := [(cd (Try.f3.body.getD .skip) [0]), (cd (Try.f3.body.getD .skip) [1, 0, 0]), (cd (Try.f3.body.getD .skip) [1, 0, 1]), (cd (Try.f3.body.getD .skip) [1, 1, 0]), (cd (Try.f3.body.getD .skip) [1, 1, 1, 0]), (cd (Try.f3.body.getD .skip) [1, 1, 1, 1, 0, 0])]) (N := (fun s w => r3_p7 K (s 3) (s 4) (s 11) (s 12) (s 13) w)) (N' := (r3_p7_den K)) (X := (fun i => (fun _ _ => False))) (X' := (fun i => (fun _ _ => False))) (R := r3_R K) (s := s) (w := w) (p := r3_p8 K (s 0) w) (q := r3_p8_den K s w) (fun s w h => r3_p7_ok K s w @h) (fun i => tr_id) (by kernel_rfl) (by kernel_rfl) @h
/-- the call, from the text -/
theorem cr3 (t0 : Value) {K : Value → World → Prop} {w : World} (h : r3_p8 K t0 w) : cl Try.prog 3 #[t0] K w :=
  calls_of_tr (c := (Try.f3.body.getD .skip)) (fn := Try.f3) (q := r3_p8_den K (st0 #[t0]) w) Try.func3 (by kernel_rfl) (by kernel_rfl) (Nat.le_of_ble_eq_true (by kernel_rfl)) (by kernel_rfl) (by kernel_rfl) (r3_p8_ok K (st0 #[t0]) w @h)

end Go.Proofs.Qxb6500898a
