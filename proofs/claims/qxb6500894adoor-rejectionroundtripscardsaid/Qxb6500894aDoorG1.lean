import Derived.Test.Qxb6500894aDoorProg
import Derived.Test.Qxb6500894aDoorShTr
namespace Go.Proofs.Qxb6500894aDoor
open Go.Sh Go.RowKit
set_option linter.unusedVariables false
set_option maxRecDepth 100000

/-! ### function 8 : e2e.recordlaw.RejectionRoundTrips -/
def s8_R (K : Value → World → Prop) (s : Nat → Value) (w : World) : Prop := retv Tryd.prog s Tryd.f8.results.toList (fun vs => K (pack vs) w) w
def s8_p1 (K : Value → World → Prop) (w : World) : Prop :=
  K (.bool true) w
def s8_p1_den (K : Value → World → Prop) : (Nat → Value) → World → Prop := denL Tryd.prog [(cd (Tryd.f8.body.getD .skip) [1, 1, 1, 0]), (cd (Tryd.f8.body.getD .skip) [1, 1, 1, 1])] (fun _ _ => False) (fun i => (fun _ _ => False)) (s8_R K)
theorem s8_p1_ok (K : Value → World → Prop) (s : Nat → Value) (w : World) (h : s8_p1 K w) : Tr (s8_p1_den K s w) :=
  tr_simple (P := Tryd.prog) (codes := [(cd (Tryd.f8.body.getD .skip) [1, 1, 1, 0]), (cd (Tryd.f8.body.getD .skip) [1, 1, 1, 1])]) (N := (fun _ _ => False)) (N' := (fun _ _ => False)) (X := (fun i => (fun _ _ => False))) (X' := (fun i => (fun _ _ => False))) (R := s8_R K) (s := s) (w := w) (p := s8_p1 K w) (q := s8_p1_den K s w) tr_id (fun i => tr_id) (by kernel_rfl) (by kernel_rfl) @h
def s8_p2 (K : Value → World → Prop) (B1 : List Value → World → Prop) (t11 t12 t13 : Value) (w : World) : Prop :=
  boI .add t13 (.int .i64 1) (fun t47 w =>
  B1 [t11, t12, t47] w) w
def s8_p2_den (K : Value → World → Prop) (M1 : (Nat → Value) → World → Prop) : (Nat → Value) → World → Prop := denL Tryd.prog [(cd (Tryd.f8.body.getD .skip) [1, 1, 0, 1, 0, 0, 1, 1, 1])] M1 (fun i => (bif Nat.beq i 0 then (s8_p1_den K) else (fun _ _ => False))) (s8_R K)
theorem s8_p2_ok (K : Value → World → Prop) (B1 : List Value → World → Prop) (s : Nat → Value) (w : World) (h : s8_p2 K B1 (s 11) (s 12) (s 13) w) : Tr (s8_p2_den K (fun s w => B1 [s 11, s 12, s 13] w) s w) :=
  tr_simple (P := Tryd.prog) (codes := [(cd (Tryd.f8.body.getD .skip) [1, 1, 0, 1, 0, 0, 1, 1, 1])]) (N := (fun s w => B1 [s 11, s 12, s 13] w)) (N' := (fun s w => B1 [s 11, s 12, s 13] w)) (X := (fun i => (bif Nat.beq i 0 then (fun s w => s8_p1 K w) else (fun _ _ => False)))) (X' := (fun i => (bif Nat.beq i 0 then (s8_p1_den K) else (fun _ _ => False)))) (R := s8_R K) (s := s) (w := w) (p := s8_p2 K B1 (s 11) (s 12) (s 13) w) (q := s8_p2_den K (fun s w => B1 [s 11, s 12, s 13] w) s w) tr_id (fun i => (tr_bif (fun s w h => s8_p1_ok K s w @h) tr_id)) (by kernel_rfl) (by kernel_rfl) @h
def s8_p3 (K : Value → World → Prop) (B1 : List Value → World → Prop) (t11 t12 t13 : Value) (w : World) : Prop :=
  boI .lss t13 t12 (fun t14 w =>
  ifb t14
  (ixs 20 t11 t13 (fun t15 w =>
  ldn 20 t15 (fun t16 w =>
  nw 40 #[(.int .i64 0), (.int .i64 0), (.int .u32 0), (.int .i64 0), (.int .u8 0), (.int .i64 0), (.int .i64 0), (.int .i64 0), (.int .i64 0), (.string ⟨#[]⟩), (.string ⟨#[]⟩), (.slice none 0 0), (.string ⟨#[]⟩), (.string ⟨#[]⟩), (.string ⟨#[]⟩), (.string ⟨#[]⟩), (.string ⟨#[]⟩), (.slice none 0 0), (.int .u8 0), (.slice none 0 0)] (fun t4 w =>
  stn 20 t4 t16 (fun w =>
  fd 4 t4 (fun t17 w =>
  fd 1 t17 (fun t18 w =>
  ldn 4 t18 (fun t19 w =>
  fd 18 t4 (fun t20 w =>
  ld1 t20 (fun t21 w =>
  bdq [(.int .i64 0), (.int .i64 0), (.int .i64 0), (.int .i64 0), (.int .u8 0)] [(some (0, 4), t19), (some (4, 1), t21)] (fun t22 w =>
  nw 70 #[(.int .i64 0), (.int .i64 0), (.int .i64 0), (.int .i64 0), (.int .u8 0)] (fun t5 w =>
  stn 5 t5 t22 (fun w =>
  ldn 5 t5 (fun t24 w =>
  cl Tryd.prog 25 #[(.slice none 0 0), t24] (fun t25 w =>
  cl Tryd.prog 26 #[t25] (fun t26 w =>
  exq t26 0 (fun t27 w =>
  exq t26 1 (fun t28 w =>
  nw 70 #[(.int .i64 0), (.int .i64 0), (.int .i64 0), (.int .i64 0), (.int .u8 0)] (fun t6 w =>
  stn 5 t6 t27 (fun w =>
  fd 4 t5 (fun t29 w =>
  ld1 t29 (fun t30 w =>
  boI .eql t30 (.int .u8 0) (fun t31 w =>
  gd t31 false (fd 4 t5) (fun t33 w =>
  gd t31 false (ld1 t33) (fun t34 w =>
  gd t31 false (boI .geq t34 (.int .u8 16)) (fun t35 w =>
  pk t31 (.bool true) t35 (fun t36 w =>
  ifb t36
  (ld1 (.pointer (some ⟨0, 0, none⟩)) (fun t38 w =>
  boF Tryd.prog false .neq t28 t38 (fun t39 w =>
  ifb t39
  (K (.bool false) w)
  (s8_p2 K B1 t11 t12 t13 w)) w) w)
  (boF Tryd.prog true .neq t28 .nilIface (fun t41 w =>
  gd t41 false (ldn 5 t6) (fun t43 w =>
  gd t41 false (ldn 5 t5) (fun t44 w =>
  gd t41 false (bor Tryd.prog .neq 70 (.tmp 43) (.tmp 44) t43 t44) (fun t45 w =>
  pk t41 (.bool true) t45 (fun t46 w =>
  ifb t46
  (K (.bool false) w)
  (s8_p2 K B1 t11 t12 t13 w)) w) w) w) w) w)) w) w) w) w) w) w) w) w) w) w) w) w) w) w) w) w) w) w) w) w) w) w) w) w) w) w)
  (s8_p1 K w)) w
def s8_p3_den (K : Value → World → Prop) (M1 : (Nat → Value) → World → Prop) : (Nat → Value) → World → Prop := denL Tryd.prog [(cd (Tryd.f8.body.getD .skip) [1, 1, 0, 1, 0, 0, 0]), (cd (Tryd.f8.body.getD .skip) [1, 1, 0, 1, 0, 0, 1, 0]), (cd (Tryd.f8.body.getD .skip) [1, 1, 0, 1, 0, 0, 1, 1, 0])] (s8_p2_den K M1) (fun i => (bif Nat.beq i 0 then (s8_p1_den K) else (fun _ _ => False))) (s8_R K)
theorem s8_p3_ok (K : Value → World → Prop) (B1 : List Value → World → Prop) (s : Nat → Value) (w : World) (h : s8_p3 K B1 (s 11) (s 12) (s 13) w) : Tr (s8_p3_den K (fun s w => B1 [s 11, s 12, s 13] w) s w) :=
  tr_simple (P := Tryd.prog) (codes := [(cd (Tryd.f8.body.getD .skip) [1, 1, 0, 1, 0, 0, 0]), (cd (Tryd.f8.body.getD .skip) [1, 1, 0, 1, 0, 0, 1, 0]), (cd (Tryd.f8.body.getD .skip) [1, 1, 0, 1, 0, 0, 1, 1, 0])]) (N := (fun s w => s8_p2 K B1 (s 11) (s 12) (s 13) w)) (N' := (s8_p2_den K (fun s w => B1 [s 11, s 12, s 13] w))) (X := (fun i => (bif Nat.beq i 0 then (fun s w => s8_p1 K w) else (fun _ _ => False)))) (X' := (fun i => (bif Nat.beq i 0 then (s8_p1_den K) else (fun _ _ => False)))) (R := s8_R K) (s := s) (w := w) (p := s8_p3 K B1 (s 11) (s 12) (s 13) w) (q := s8_p3_den K (fun s w => B1 [s 11, s 12, s 13] w) s w) (fun s w h => s8_p2_ok K B1 s w @h) (fun i => (tr_bif (fun s w h => s8_p1_ok K s w @h) tr_id)) (by kernel_rfl) (by kernel_rfl) @h
def s8_p4_F (K : Value → World → Prop) (B1 : List Value → World → Prop) (l : List Value) (w : World) : Prop :=
  match l with
  | [t11, t12, t13] => s8_p3 K B1 t11 t12 t13 w
  | _ => False
theorem s8_p4_Fe {K : Value → World → Prop} {B1 : List Value → World → Prop} {t11 t12 t13 : Value} {w : World} : s8_p4_F K B1 [t11, t12, t13] w = s8_p3 K B1 t11 t12 t13 w := by kernel_rfl
def s8_p4 (K : Value → World → Prop) (t11 t12 t13 : Value) (w : World) : Prop :=
  LoopL (s8_p4_F K) [t11, t12, t13] w
def s8_p4_den (K : Value → World → Prop) : (Nat → Value) → World → Prop := fun s w => LoopP (fun M1 s w => s8_p3_den K M1 s w) s w
theorem s8_p4_ok (K : Value → World → Prop) (s : Nat → Value) (w : World) (h : s8_p4 K (s 11) (s 12) (s 13) w) : Tr (s8_p4_den K s w) :=
  tr_loop (G := fun N' s w => s8_p3_den K N' s w) (F := s8_p4_F K) (sel := fun s => [s 11, s 12, s 13]) (s := s) (w := w) (p := s8_p4 K (s 11) (s 12) (s 13) w) (q := s8_p4_den K s w) (fun B s w h => s8_p3_ok K B s w @h) (by kernel_rfl) (by kernel_rfl) @h
def s8_p5 (K : Value → World → Prop) (t0 : Value) (w : World) : Prop :=
  cl Tryd.prog 10 #[t0] (fun t9 w =>
  un .not t9 (fun t10 w =>
  ifb t10
  (K (.bool true) w)
  (lnS t0 (fun t12 w =>
  s8_p4 K t0 t12 (.int .i64 0) w) w)) w) w
def s8_p5_den (K : Value → World → Prop) : (Nat → Value) → World → Prop := denL Tryd.prog [(cd (Tryd.f8.body.getD .skip) [0]), (cd (Tryd.f8.body.getD .skip) [1, 0, 0]), (cd (Tryd.f8.body.getD .skip) [1, 0, 1]), (cd (Tryd.f8.body.getD .skip) [1, 1, 0, 0])] (s8_p4_den K) (fun i => (fun _ _ => False)) (s8_R K)
theorem s8_p5_ok (K : Value → World → Prop) (s : Nat → Value) (w : World) (h : s8_p5 K (s 0) w) : Tr (s8_p5_den K s w) :=
  tr_simple (P := Tryd.prog) (codes := [(cd (Tryd.f8.body.getD .skip) [0]), (cd (Tryd.f8.body.getD .skip) [1, 0, 0]), (cd (Tryd.f8.body.getD .skip) [1, 0, 1]), (cd (Tryd.f8.body.getD .skip) [1, 1, 0, 0])]) (N := (fun s w => s8_p4 K (s 11) (s 12) (s 13) w)) (N' := (s8_p4_den K)) (X := (fun i => (fun _ _ => False))) (X' := (fun i => (fun _ _ => False))) (R := s8_R K) (s := s) (w := w) (p := s8_p5 K (s 0) w) (q := s8_p5_den K s w) (fun s w h => s8_p4_ok K s w @h) (fun i => tr_id) (by kernel_rfl) (by kernel_rfl) @h
/-- the call, from the text -/
theorem c8 (t0 : Value) {K : Value → World → Prop} {w : World} (h : s8_p5 K t0 w) : cl Tryd.prog 8 #[t0] K w :=
  calls_of_tr (c := (Tryd.f8.body.getD .skip)) (fn := Tryd.f8) (q := s8_p5_den K (st0 #[t0]) w) Tryd.func8 (by kernel_rfl) (by kernel_rfl) (Nat.le_of_ble_eq_true (by kernel_rfl)) (by kernel_rfl) (by kernel_rfl) (s8_p5_ok K (st0 #[t0]) w @h)

/-! ### function 10 : e2e.recordlaw.zzSmall1 -/
def s10_R (K : Value → World → Prop) (s : Nat → Value) (w : World) : Prop := retv Tryd.prog s Tryd.f10.results.toList (fun vs => K (pack vs) w) w
def s10_p1 (K : Value → World → Prop) (w : World) : Prop :=
  K (.bool true) w
def s10_p1_den (K : Value → World → Prop) : (Nat → Value) → World → Prop := denL Tryd.prog [(cd (Tryd.f10.body.getD .skip) [1, 1, 1, 1, 0]), (cd (Tryd.f10.body.getD .skip) [1, 1, 1, 1, 1])] (fun _ _ => False) (fun i => (fun _ _ => False)) (s10_R K)
theorem s10_p1_ok (K : Value → World → Prop) (s : Nat → Value) (w : World) (h : s10_p1 K w) : Tr (s10_p1_den K s w) :=
  tr_simple (P := Tryd.prog) (codes := [(cd (Tryd.f10.body.getD .skip) [1, 1, 1, 1, 0]), (cd (Tryd.f10.body.getD .skip) [1, 1, 1, 1, 1])]) (N := (fun _ _ => False)) (N' := (fun _ _ => False)) (X := (fun i => (fun _ _ => False))) (X' := (fun i => (fun _ _ => False))) (R := s10_R K) (s := s) (w := w) (p := s10_p1 K w) (q := s10_p1_den K s w) tr_id (fun i => tr_id) (by kernel_rfl) (by kernel_rfl) @h
def s10_p2 (K : Value → World → Prop) (B1 : List Value → World → Prop) (t0 t3 t4 : Value) (w : World) : Prop :=
  boI .add t4 (.int .i64 1) (fun t17 w =>
  B1 [t0, t3, t17] w) w
def s10_p2_den (K : Value → World → Prop) (M1 : (Nat → Value) → World → Prop) : (Nat → Value) → World → Prop := denL Tryd.prog [(cd (Tryd.f10.body.getD .skip) [1, 1, 1, 0, 1, 0, 0, 1, 1])] M1 (fun i => (bif Nat.beq i 0 then (s10_p1_den K) else (fun _ _ => False))) (s10_R K)
theorem s10_p2_ok (K : Value → World → Prop) (B1 : List Value → World → Prop) (s : Nat → Value) (w : World) (h : s10_p2 K B1 (s 0) (s 3) (s 4) w) : Tr (s10_p2_den K (fun s w => B1 [s 0, s 3, s 4] w) s w) :=
  tr_simple (P := Tryd.prog) (codes := [(cd (Tryd.f10.body.getD .skip) [1, 1, 1, 0, 1, 0, 0, 1, 1])]) (N := (fun s w => B1 [s 0, s 3, s 4] w)) (N' := (fun s w => B1 [s 0, s 3, s 4] w)) (X := (fun i => (bif Nat.beq i 0 then (fun s w => s10_p1 K w) else (fun _ _ => False)))) (X' := (fun i => (bif Nat.beq i 0 then (s10_p1_den K) else (fun _ _ => False)))) (R := s10_R K) (s := s) (w := w) (p := s10_p2 K B1 (s 0) (s 3) (s 4) w) (q := s10_p2_den K (fun s w => B1 [s 0, s 3, s 4] w) s w) tr_id (fun i => (tr_bif (fun s w h => s10_p1_ok K s w @h) tr_id)) (by kernel_rfl) (by kernel_rfl) @h
def s10_p3 (K : Value → World → Prop) (B1 : List Value → World → Prop) (t0 t3 t4 : Value) (w : World) : Prop :=
  ixs 20 t0 t4 (fun t243 w =>
  fd 19 t243 (fun t244 w =>
  ld1 t244 (fun t245 w =>
  lnS t245 (fun t246 w =>
  boI .add t3 t246 (fun t247 w =>
  boI .gtr t247 (.int .i64 65536) (fun t249 w =>
  ifb t249
  (K (.bool false) w)
  (s10_p2 K B1 t0 t247 t4 w)) w) w) w) w) w) w
def s10_p3_den (K : Value → World → Prop) (M1 : (Nat → Value) → World → Prop) : (Nat → Value) → World → Prop := denL Tryd.prog [(cd (Tryd.f10.body.getD .skip) [1, 1, 1, 0, 1, 0, 0, 1, 0, 0, 1, 1, 1, 1, 1, 1, 1, 1, 1, 1, 1, 1, 1, 1, 1, 1, 1, 1, 1, 1, 0]), (cd (Tryd.f10.body.getD .skip) [1, 1, 1, 0, 1, 0, 0, 1, 0, 0, 1, 1, 1, 1, 1, 1, 1, 1, 1, 1, 1, 1, 1, 1, 1, 1, 1, 1, 1, 1, 1, 0]), (cd (Tryd.f10.body.getD .skip) [1, 1, 1, 0, 1, 0, 0, 1, 0, 0, 1, 1, 1, 1, 1, 1, 1, 1, 1, 1, 1, 1, 1, 1, 1, 1, 1, 1, 1, 1, 1, 1])] (s10_p2_den K M1) (fun i => (bif Nat.beq i 1 then (s10_p2_den K M1) else (bif Nat.beq i 0 then (s10_p1_den K) else (fun _ _ => False)))) (s10_R K)
theorem s10_p3_ok (K : Value → World → Prop) (B1 : List Value → World → Prop) (s : Nat → Value) (w : World) (h : s10_p3 K B1 (s 0) (s 3) (s 4) w) : Tr (s10_p3_den K (fun s w => B1 [s 0, s 3, s 4] w) s w) :=
  tr_simple (P := Tryd.prog) (codes := [(cd (Tryd.f10.body.getD .skip) [1, 1, 1, 0, 1, 0, 0, 1, 0, 0, 1, 1, 1, 1, 1, 1, 1, 1, 1, 1, 1, 1, 1, 1, 1, 1, 1, 1, 1, 1, 0]), (cd (Tryd.f10.body.getD .skip) [1, 1, 1, 0, 1, 0, 0, 1, 0, 0, 1, 1, 1, 1, 1, 1, 1, 1, 1, 1, 1, 1, 1, 1, 1, 1, 1, 1, 1, 1, 1, 0]), (cd (Tryd.f10.body.getD .skip) [1, 1, 1, 0, 1, 0, 0, 1, 0, 0, 1, 1, 1, 1, 1, 1, 1, 1, 1, 1, 1, 1, 1, 1, 1, 1, 1, 1, 1, 1, 1, 1])]) (N := (fun s w => s10_p2 K B1 (s 0) (s 3) (s 4) w)) (N' := (s10_p2_den K (fun s w => B1 [s 0, s 3, s 4] w))) (X := (fun i => (bif Nat.beq i 1 then (fun s w => s10_p2 K B1 (s 0) (s 3) (s 4) w) else (bif Nat.beq i 0 then (fun s w => s10_p1 K w) else (fun _ _ => False))))) (X' := (fun i => (bif Nat.beq i 1 then (s10_p2_den K (fun s w => B1 [s 0, s 3, s 4] w)) else (bif Nat.beq i 0 then (s10_p1_den K) else (fun _ _ => False))))) (R := s10_R K) (s := s) (w := w) (p := s10_p3 K B1 (s 0) (s 3) (s 4) w) (q := s10_p3_den K (fun s w => B1 [s 0, s 3, s 4] w) s w) (fun s w h => s10_p2_ok K B1 s w @h) (fun i => (tr_bif (fun s w h => s10_p2_ok K B1 s w @h) (tr_bif (fun s w h => s10_p1_ok K s w @h) tr_id))) (by kernel_rfl) (by kernel_rfl) @h
def s10_p4 (K : Value → World → Prop) (B1 : List Value → World → Prop) (B2 : List Value → World → Prop) (t0 t3 t4 t6 : Value) (w : World) : Prop :=
  boI .add t6 (.int .i64 1) (fun t158 w =>
  B2 [t0, t3, t4, t158] w) w
def s10_p4_den (K : Value → World → Prop) (M1 : (Nat → Value) → World → Prop) (M2 : (Nat → Value) → World → Prop) : (Nat → Value) → World → Prop := denL Tryd.prog [(cd (Tryd.f10.body.getD .skip) [1, 1, 1, 0, 1, 0, 0, 1, 0, 0, 1, 1, 1, 1, 1, 1, 1, 1, 1, 1, 1, 1, 1, 1, 1, 1, 1, 1, 1, 0, 1, 0, 0, 1, 1])] M2 (fun i => (bif Nat.beq i 4 then (s10_p3_den K M1) else (bif Nat.beq i 1 then (s10_p2_den K M1) else (bif Nat.beq i 0 then (s10_p1_den K) else (fun _ _ => False))))) (s10_R K)
theorem s10_p4_ok (K : Value → World → Prop) (B1 : List Value → World → Prop) (B2 : List Value → World → Prop) (s : Nat → Value) (w : World) (h : s10_p4 K B1 B2 (s 0) (s 3) (s 4) (s 6) w) : Tr (s10_p4_den K (fun s w => B1 [s 0, s 3, s 4] w) (fun s w => B2 [s 0, s 3, s 4, s 6] w) s w) :=
  tr_simple (P := Tryd.prog) (codes := [(cd (Tryd.f10.body.getD .skip) [1, 1, 1, 0, 1, 0, 0, 1, 0, 0, 1, 1, 1, 1, 1, 1, 1, 1, 1, 1, 1, 1, 1, 1, 1, 1, 1, 1, 1, 0, 1, 0, 0, 1, 1])]) (N := (fun s w => B2 [s 0, s 3, s 4, s 6] w)) (N' := (fun s w => B2 [s 0, s 3, s 4, s 6] w)) (X := (fun i => (bif Nat.beq i 4 then (fun s w => s10_p3 K B1 (s 0) (s 3) (s 4) w) else (bif Nat.beq i 1 then (fun s w => s10_p2 K B1 (s 0) (s 3) (s 4) w) else (bif Nat.beq i 0 then (fun s w => s10_p1 K w) else (fun _ _ => False)))))) (X' := (fun i => (bif Nat.beq i 4 then (s10_p3_den K (fun s w => B1 [s 0, s 3, s 4] w)) else (bif Nat.beq i 1 then (s10_p2_den K (fun s w => B1 [s 0, s 3, s 4] w)) else (bif Nat.beq i 0 then (s10_p1_den K) else (fun _ _ => False)))))) (R := s10_R K) (s := s) (w := w) (p := s10_p4 K B1 B2 (s 0) (s 3) (s 4) (s 6) w) (q := s10_p4_den K (fun s w => B1 [s 0, s 3, s 4] w) (fun s w => B2 [s 0, s 3, s 4, s 6] w) s w) tr_id (fun i => (tr_bif (fun s w h => s10_p3_ok K B1 s w @h) (tr_bif (fun s w h => s10_p2_ok K B1 s w @h) (tr_bif (fun s w h => s10_p1_ok K s w @h) tr_id)))) (by kernel_rfl) (by kernel_rfl) @h
def s10_p5 (K : Value → World → Prop) (B1 : List Value → World → Prop) (B2 : List Value → World → Prop) (B3 : List Value → World → Prop) (t0 t3 t4 t6 t7 : Value) (w : World) : Prop :=
  ixs 20 t0 t4 (fun t209 w =>
  fd 4 t209 (fun t210 w =>
  fd 13 t210 (fun t211 w =>
  ld1 t211 (fun t212 w =>
  ixs 9 t212 t6 (fun t214 w =>
  fd 1 t214 (fun t215 w =>
  fd 7 t215 (fun t216 w =>
  ld1 t216 (fun t217 w =>
  lnS t217 (fun t218 w =>
  boI .lss t7 t218 (fun t219 w =>
  ifb t219
  (ixs 20 t0 t4 (fun t224 w =>
  fd 4 t224 (fun t225 w =>
  fd 13 t225 (fun t226 w =>
  ld1 t226 (fun t227 w =>
  ixs 9 t227 t6 (fun t229 w =>
  fd 1 t229 (fun t230 w =>
  fd 7 t230 (fun t231 w =>
  ld1 t231 (fun t232 w =>
  ixs 8 t232 t7 (fun t234 w =>
  ldn 8 t234 (fun t235 w =>
  cl Tryd.prog 38 #[t235, t3] (fun t237 w =>
  boI .gtr t237 (.int .i64 65536) (fun t239 w =>
  ifb t239
  (K (.bool false) w)
  (boI .add t7 (.int .i64 1) (fun t221 w =>
  B3 [t0, t237, t4, t6, t221] w) w)) w) w) w) w) w) w) w) w) w) w) w) w)
  (s10_p4 K B1 B2 t0 t3 t4 t6 w)) w) w) w) w) w) w) w) w) w) w
def s10_p5_den (K : Value → World → Prop) (M1 : (Nat → Value) → World → Prop) (M2 : (Nat → Value) → World → Prop) (M3 : (Nat → Value) → World → Prop) : (Nat → Value) → World → Prop := denL Tryd.prog [(cd (Tryd.f10.body.getD .skip) [1, 1, 1, 0, 1, 0, 0, 1, 0, 0, 1, 1, 1, 1, 1, 1, 1, 1, 1, 1, 1, 1, 1, 1, 1, 1, 1, 1, 1, 0, 1, 0, 0, 1, 0, 0, 1, 1, 1, 1, 1, 1, 1, 0, 0, 0, 0]), (cd (Tryd.f10.body.getD .skip) [1, 1, 1, 0, 1, 0, 0, 1, 0, 0, 1, 1, 1, 1, 1, 1, 1, 1, 1, 1, 1, 1, 1, 1, 1, 1, 1, 1, 1, 0, 1, 0, 0, 1, 0, 0, 1, 1, 1, 1, 1, 1, 1, 0, 0, 0, 1]), (cd (Tryd.f10.body.getD .skip) [1, 1, 1, 0, 1, 0, 0, 1, 0, 0, 1, 1, 1, 1, 1, 1, 1, 1, 1, 1, 1, 1, 1, 1, 1, 1, 1, 1, 1, 0, 1, 0, 0, 1, 0, 0, 1, 1, 1, 1, 1, 1, 1, 0, 0, 1, 0]), (cd (Tryd.f10.body.getD .skip) [1, 1, 1, 0, 1, 0, 0, 1, 0, 0, 1, 1, 1, 1, 1, 1, 1, 1, 1, 1, 1, 1, 1, 1, 1, 1, 1, 1, 1, 0, 1, 0, 0, 1, 0, 0, 1, 1, 1, 1, 1, 1, 1, 0, 0, 1, 1])] M3 (fun i => (bif Nat.beq i 6 then (s10_p4_den K M1 M2) else (bif Nat.beq i 5 then (s10_p4_den K M1 M2) else (bif Nat.beq i 4 then (s10_p3_den K M1) else (bif Nat.beq i 1 then (s10_p2_den K M1) else (bif Nat.beq i 0 then (s10_p1_den K) else (fun _ _ => False))))))) (s10_R K)
theorem s10_p5_ok (K : Value → World → Prop) (B1 : List Value → World → Prop) (B2 : List Value → World → Prop) (B3 : List Value → World → Prop) (s : Nat → Value) (w : World) (h : s10_p5 K B1 B2 B3 (s 0) (s 3) (s 4) (s 6) (s 7) w) : Tr (s10_p5_den K (fun s w => B1 [s 0, s 3, s 4] w) (fun s w => B2 [s 0, s 3, s 4, s 6] w) (fun s w => B3 [s 0, s 3, s 4, s 6, s 7] w) s w) :=
  tr_simple (P := Tryd.prog) (codes := [(cd (Tryd.f10.body.getD .skip) [1, 1, 1, 0, 1, 0, 0, 1, 0, 0, 1, 1, 1, 1, 1, 1, 1, 1, 1, 1, 1, 1, 1, 1, 1, 1, 1, 1, 1, 0, 1, 0, 0, 1, 0, 0, 1, 1, 1, 1, 1, 1, 1, 0, 0, 0, 0]), (cd (Tryd.f10.body.getD .skip) [1, 1, 1, 0, 1, 0, 0, 1, 0, 0, 1, 1, 1, 1, 1, 1, 1, 1, 1, 1, 1, 1, 1, 1, 1, 1, 1, 1, 1, 0, 1, 0, 0, 1, 0, 0, 1, 1, 1, 1, 1, 1, 1, 0, 0, 0, 1]), (cd (Tryd.f10.body.getD .skip) [1, 1, 1, 0, 1, 0, 0, 1, 0, 0, 1, 1, 1, 1, 1, 1, 1, 1, 1, 1, 1, 1, 1, 1, 1, 1, 1, 1, 1, 0, 1, 0, 0, 1, 0, 0, 1, 1, 1, 1, 1, 1, 1, 0, 0, 1, 0]), (cd (Tryd.f10.body.getD .skip) [1, 1, 1, 0, 1, 0, 0, 1, 0, 0, 1, 1, 1, 1, 1, 1, 1, 1, 1, 1, 1, 1, 1, 1, 1, 1, 1, 1, 1, 0, 1, 0, 0, 1, 0, 0, 1, 1, 1, 1, 1, 1, 1, 0, 0, 1, 1])]) (N := (fun s w => B3 [s 0, s 3, s 4, s 6, s 7] w)) (N' := (fun s w => B3 [s 0, s 3, s 4, s 6, s 7] w)) (X := (fun i => (bif Nat.beq i 6 then (fun s w => s10_p4 K B1 B2 (s 0) (s 3) (s 4) (s 6) w) else (bif Nat.beq i 5 then (fun s w => s10_p4 K B1 B2 (s 0) (s 3) (s 4) (s 6) w) else (bif Nat.beq i 4 then (fun s w => s10_p3 K B1 (s 0) (s 3) (s 4) w) else (bif Nat.beq i 1 then (fun s w => s10_p2 K B1 (s 0) (s 3) (s 4) w) else (bif Nat.beq i 0 then (fun s w => s10_p1 K w) else (fun _ _ => False)))))))) (X' := (fun i => (bif Nat.beq i 6 then (s10_p4_den K (fun s w => B1 [s 0, s 3, s 4] w) (fun s w => B2 [s 0, s 3, s 4, s 6] w)) else (bif Nat.beq i 5 then (s10_p4_den K (fun s w => B1 [s 0, s 3, s 4] w) (fun s w => B2 [s 0, s 3, s 4, s 6] w)) else (bif Nat.beq i 4 then (s10_p3_den K (fun s w => B1 [s 0, s 3, s 4] w)) else (bif Nat.beq i 1 then (s10_p2_den K (fun s w => B1 [s 0, s 3, s 4] w)) else (bif Nat.beq i 0 then (s10_p1_den K) else (fun _ _ => False)))))))) (R := s10_R K) (s := s) (w := w) (p := s10_p5 K B1 B2 B3 (s 0) (s 3) (s 4) (s 6) (s 7) w) (q := s10_p5_den K (fun s w => B1 [s 0, s 3, s 4] w) (fun s w => B2 [s 0, s 3, s 4, s 6] w) (fun s w => B3 [s 0, s 3, s 4, s 6, s 7] w) s w) tr_id (fun i => (tr_bif (fun s w h => s10_p4_ok K B1 B2 s w @h) (tr_bif (fun s w h => s10_p4_ok K B1 B2 s w @h) (tr_bif (fun s w h => s10_p3_ok K B1 s w @h) (tr_bif (fun s w h => s10_p2_ok K B1 s w @h) (tr_bif (fun s w h => s10_p1_ok K s w @h) tr_id)))))) (by kernel_rfl) (by kernel_rfl) @h
def s10_p6_F (K : Value → World → Prop) (B1 : List Value → World → Prop) (B2 : List Value → World → Prop) (B3 : List Value → World → Prop) (l : List Value) (w : World) : Prop :=
  match l with
  | [t0, t3, t4, t6, t7] => s10_p5 K B1 B2 B3 t0 t3 t4 t6 t7 w
  | _ => False
theorem s10_p6_Fe {K : Value → World → Prop} {B1 : List Value → World → Prop} {B2 : List Value → World → Prop} {B3 : List Value → World → Prop} {t0 t3 t4 t6 t7 : Value} {w : World} : s10_p6_F K B1 B2 B3 [t0, t3, t4, t6, t7] w = s10_p5 K B1 B2 B3 t0 t3 t4 t6 t7 w := by kernel_rfl
def s10_p6 (K : Value → World → Prop) (B1 : List Value → World → Prop) (B2 : List Value → World → Prop) (t0 t3 t4 t6 t7 : Value) (w : World) : Prop :=
  LoopL (s10_p6_F K B1 B2) [t0, t3, t4, t6, t7] w
def s10_p6_den (K : Value → World → Prop) (M1 : (Nat → Value) → World → Prop) (M2 : (Nat → Value) → World → Prop) : (Nat → Value) → World → Prop := fun s w => LoopP (fun M3 s w => s10_p5_den K M1 M2 M3 s w) s w
theorem s10_p6_ok (K : Value → World → Prop) (B1 : List Value → World → Prop) (B2 : List Value → World → Prop) (s : Nat → Value) (w : World) (h : s10_p6 K B1 B2 (s 0) (s 3) (s 4) (s 6) (s 7) w) : Tr (s10_p6_den K (fun s w => B1 [s 0, s 3, s 4] w) (fun s w => B2 [s 0, s 3, s 4, s 6] w) s w) :=
  tr_loop (G := fun N' s w => s10_p5_den K (fun s w => B1 [s 0, s 3, s 4] w) (fun s w => B2 [s 0, s 3, s 4, s 6] w) N' s w) (F := s10_p6_F K B1 B2) (sel := fun s => [s 0, s 3, s 4, s 6, s 7]) (s := s) (w := w) (p := s10_p6 K B1 B2 (s 0) (s 3) (s 4) (s 6) (s 7) w) (q := s10_p6_den K (fun s w => B1 [s 0, s 3, s 4] w) (fun s w => B2 [s 0, s 3, s 4, s 6] w) s w) (fun B s w h => s10_p5_ok K B1 B2 B s w @h) (by kernel_rfl) (by kernel_rfl) @h
def s10_p7 (K : Value → World → Prop) (B1 : List Value → World → Prop) (B2 : List Value → World → Prop) (t0 t3 t4 t6 : Value) (w : World) : Prop :=
  ixs 20 t0 t4 (fun t162 w =>
  fd 4 t162 (fun t163 w =>
  fd 13 t163 (fun t164 w =>
  ld1 t164 (fun t165 w =>
  ixs 9 t165 t6 (fun t167 w =>
  fd 0 t167 (fun t168 w =>
  ld1 t168 (fun t169 w =>
  lnT t169 (fun t170 w =>
  boI .add t3 t170 (fun t171 w =>
  boI .gtr t171 (.int .i64 65536) (fun t173 w =>
  ifb t173
  (K (.bool false) w)
  (ixs 20 t0 t4 (fun t177 w =>
  fd 4 t177 (fun t178 w =>
  fd 13 t178 (fun t179 w =>
  ld1 t179 (fun t180 w =>
  ixs 9 t180 t6 (fun t182 w =>
  fd 1 t182 (fun t183 w =>
  fd 5 t183 (fun t184 w =>
  ld1 t184 (fun t185 w =>
  lnT t185 (fun t186 w =>
  boI .add t171 t186 (fun t187 w =>
  boI .gtr t187 (.int .i64 65536) (fun t189 w =>
  ifb t189
  (K (.bool false) w)
  (ixs 20 t0 t4 (fun t193 w =>
  fd 4 t193 (fun t194 w =>
  fd 13 t194 (fun t195 w =>
  ld1 t195 (fun t196 w =>
  ixs 9 t196 t6 (fun t198 w =>
  fd 1 t198 (fun t199 w =>
  fd 7 t199 (fun t200 w =>
  ld1 t200 (fun t201 w =>
  lnS t201 (fun t202 w =>
  boI .add t187 t202 (fun t203 w =>
  boI .gtr t203 (.int .i64 65536) (fun t205 w =>
  ifb t205
  (K (.bool false) w)
  (s10_p6 K B1 B2 t0 t203 t4 t6 (.int .i64 0) w)) w) w) w) w) w) w) w) w) w) w) w)) w) w) w) w) w) w) w) w) w) w) w)) w) w) w) w) w) w) w) w) w) w
def s10_p7_den (K : Value → World → Prop) (M1 : (Nat → Value) → World → Prop) (M2 : (Nat → Value) → World → Prop) : (Nat → Value) → World → Prop := denL Tryd.prog [(cd (Tryd.f10.body.getD .skip) [1, 1, 1, 0, 1, 0, 0, 1, 0, 0, 1, 1, 1, 1, 1, 1, 1, 1, 1, 1, 1, 1, 1, 1, 1, 1, 1, 1, 1, 0, 1, 0, 0, 1, 0, 0, 0]), (cd (Tryd.f10.body.getD .skip) [1, 1, 1, 0, 1, 0, 0, 1, 0, 0, 1, 1, 1, 1, 1, 1, 1, 1, 1, 1, 1, 1, 1, 1, 1, 1, 1, 1, 1, 0, 1, 0, 0, 1, 0, 0, 1, 0, 0]), (cd (Tryd.f10.body.getD .skip) [1, 1, 1, 0, 1, 0, 0, 1, 0, 0, 1, 1, 1, 1, 1, 1, 1, 1, 1, 1, 1, 1, 1, 1, 1, 1, 1, 1, 1, 0, 1, 0, 0, 1, 0, 0, 1, 0, 1]), (cd (Tryd.f10.body.getD .skip) [1, 1, 1, 0, 1, 0, 0, 1, 0, 0, 1, 1, 1, 1, 1, 1, 1, 1, 1, 1, 1, 1, 1, 1, 1, 1, 1, 1, 1, 0, 1, 0, 0, 1, 0, 0, 1, 1, 0]), (cd (Tryd.f10.body.getD .skip) [1, 1, 1, 0, 1, 0, 0, 1, 0, 0, 1, 1, 1, 1, 1, 1, 1, 1, 1, 1, 1, 1, 1, 1, 1, 1, 1, 1, 1, 0, 1, 0, 0, 1, 0, 0, 1, 1, 1, 0, 0]), (cd (Tryd.f10.body.getD .skip) [1, 1, 1, 0, 1, 0, 0, 1, 0, 0, 1, 1, 1, 1, 1, 1, 1, 1, 1, 1, 1, 1, 1, 1, 1, 1, 1, 1, 1, 0, 1, 0, 0, 1, 0, 0, 1, 1, 1, 0, 1]), (cd (Tryd.f10.body.getD .skip) [1, 1, 1, 0, 1, 0, 0, 1, 0, 0, 1, 1, 1, 1, 1, 1, 1, 1, 1, 1, 1, 1, 1, 1, 1, 1, 1, 1, 1, 0, 1, 0, 0, 1, 0, 0, 1, 1, 1, 1, 0]), (cd (Tryd.f10.body.getD .skip) [1, 1, 1, 0, 1, 0, 0, 1, 0, 0, 1, 1, 1, 1, 1, 1, 1, 1, 1, 1, 1, 1, 1, 1, 1, 1, 1, 1, 1, 0, 1, 0, 0, 1, 0, 0, 1, 1, 1, 1, 1, 0, 0]), (cd (Tryd.f10.body.getD .skip) [1, 1, 1, 0, 1, 0, 0, 1, 0, 0, 1, 1, 1, 1, 1, 1, 1, 1, 1, 1, 1, 1, 1, 1, 1, 1, 1, 1, 1, 0, 1, 0, 0, 1, 0, 0, 1, 1, 1, 1, 1, 0, 1]), (cd (Tryd.f10.body.getD .skip) [1, 1, 1, 0, 1, 0, 0, 1, 0, 0, 1, 1, 1, 1, 1, 1, 1, 1, 1, 1, 1, 1, 1, 1, 1, 1, 1, 1, 1, 0, 1, 0, 0, 1, 0, 0, 1, 1, 1, 1, 1, 1, 0])] (s10_p6_den K M1 M2) (fun i => (bif Nat.beq i 5 then (s10_p4_den K M1 M2) else (bif Nat.beq i 4 then (s10_p3_den K M1) else (bif Nat.beq i 1 then (s10_p2_den K M1) else (bif Nat.beq i 0 then (s10_p1_den K) else (fun _ _ => False)))))) (s10_R K)
theorem s10_p7_ok (K : Value → World → Prop) (B1 : List Value → World → Prop) (B2 : List Value → World → Prop) (s : Nat → Value) (w : World) (h : s10_p7 K B1 B2 (s 0) (s 3) (s 4) (s 6) w) : Tr (s10_p7_den K (fun s w => B1 [s 0, s 3, s 4] w) (fun s w => B2 [s 0, s 3, s 4, s 6] w) s w) :=
  tr_simple (P := Tryd.prog) (codes := [(cd (Tryd.f10.body.getD .skip) [1, 1, 1, 0, 1, 0, 0, 1, 0, 0, 1, 1, 1, 1, 1, 1, 1, 1, 1, 1, 1, 1, 1, 1, 1, 1, 1, 1, 1, 0, 1, 0, 0, 1, 0, 0, 0]), (cd (Tryd.f10.body.getD .skip) [1, 1, 1, 0, 1, 0, 0, 1, 0, 0, 1, 1, 1, 1, 1, 1, 1, 1, 1, 1, 1, 1, 1, 1, 1, 1, 1, 1, 1, 0, 1, 0, 0, 1, 0, 0, 1, 0, 0]), (cd (Tryd.f10.body.getD .skip) [1, 1, 1, 0, 1, 0, 0, 1, 0, 0, 1, 1, 1, 1, 1, 1, 1, 1, 1, 1, 1, 1, 1, 1, 1, 1, 1, 1, 1, 0, 1, 0, 0, 1, 0, 0, 1, 0, 1]), (cd (Tryd.f10.body.getD .skip) [1, 1, 1, 0, 1, 0, 0, 1, 0, 0, 1, 1, 1, 1, 1, 1, 1, 1, 1, 1, 1, 1, 1, 1, 1, 1, 1, 1, 1, 0, 1, 0, 0, 1, 0, 0, 1, 1, 0]), (cd (Tryd.f10.body.getD .skip) [1, 1, 1, 0, 1, 0, 0, 1, 0, 0, 1, 1, 1, 1, 1, 1, 1, 1, 1, 1, 1, 1, 1, 1, 1, 1, 1, 1, 1, 0, 1, 0, 0, 1, 0, 0, 1, 1, 1, 0, 0]), (cd (Tryd.f10.body.getD .skip) [1, 1, 1, 0, 1, 0, 0, 1, 0, 0, 1, 1, 1, 1, 1, 1, 1, 1, 1, 1, 1, 1, 1, 1, 1, 1, 1, 1, 1, 0, 1, 0, 0, 1, 0, 0, 1, 1, 1, 0, 1]), (cd (Tryd.f10.body.getD .skip) [1, 1, 1, 0, 1, 0, 0, 1, 0, 0, 1, 1, 1, 1, 1, 1, 1, 1, 1, 1, 1, 1, 1, 1, 1, 1, 1, 1, 1, 0, 1, 0, 0, 1, 0, 0, 1, 1, 1, 1, 0]), (cd (Tryd.f10.body.getD .skip) [1, 1, 1, 0, 1, 0, 0, 1, 0, 0, 1, 1, 1, 1, 1, 1, 1, 1, 1, 1, 1, 1, 1, 1, 1, 1, 1, 1, 1, 0, 1, 0, 0, 1, 0, 0, 1, 1, 1, 1, 1, 0, 0]), (cd (Tryd.f10.body.getD .skip) [1, 1, 1, 0, 1, 0, 0, 1, 0, 0, 1, 1, 1, 1, 1, 1, 1, 1, 1, 1, 1, 1, 1, 1, 1, 1, 1, 1, 1, 0, 1, 0, 0, 1, 0, 0, 1, 1, 1, 1, 1, 0, 1]), (cd (Tryd.f10.body.getD .skip) [1, 1, 1, 0, 1, 0, 0, 1, 0, 0, 1, 1, 1, 1, 1, 1, 1, 1, 1, 1, 1, 1, 1, 1, 1, 1, 1, 1, 1, 0, 1, 0, 0, 1, 0, 0, 1, 1, 1, 1, 1, 1, 0])]) (N := (fun s w => s10_p6 K B1 B2 (s 0) (s 3) (s 4) (s 6) (s 7) w)) (N' := (s10_p6_den K (fun s w => B1 [s 0, s 3, s 4] w) (fun s w => B2 [s 0, s 3, s 4, s 6] w))) (X := (fun i => (bif Nat.beq i 5 then (fun s w => s10_p4 K B1 B2 (s 0) (s 3) (s 4) (s 6) w) else (bif Nat.beq i 4 then (fun s w => s10_p3 K B1 (s 0) (s 3) (s 4) w) else (bif Nat.beq i 1 then (fun s w => s10_p2 K B1 (s 0) (s 3) (s 4) w) else (bif Nat.beq i 0 then (fun s w => s10_p1 K w) else (fun _ _ => False))))))) (X' := (fun i => (bif Nat.beq i 5 then (s10_p4_den K (fun s w => B1 [s 0, s 3, s 4] w) (fun s w => B2 [s 0, s 3, s 4, s 6] w)) else (bif Nat.beq i 4 then (s10_p3_den K (fun s w => B1 [s 0, s 3, s 4] w)) else (bif Nat.beq i 1 then (s10_p2_den K (fun s w => B1 [s 0, s 3, s 4] w)) else (bif Nat.beq i 0 then (s10_p1_den K) else (fun _ _ => False))))))) (R := s10_R K) (s := s) (w := w) (p := s10_p7 K B1 B2 (s 0) (s 3) (s 4) (s 6) w) (q := s10_p7_den K (fun s w => B1 [s 0, s 3, s 4] w) (fun s w => B2 [s 0, s 3, s 4, s 6] w) s w) (fun s w h => s10_p6_ok K B1 B2 s w @h) (fun i => (tr_bif (fun s w h => s10_p4_ok K B1 B2 s w @h) (tr_bif (fun s w h => s10_p3_ok K B1 s w @h) (tr_bif (fun s w h => s10_p2_ok K B1 s w @h) (tr_bif (fun s w h => s10_p1_ok K s w @h) tr_id))))) (by kernel_rfl) (by kernel_rfl) @h
def s10_p8 (K : Value → World → Prop) (B1 : List Value → World → Prop) (B2 : List Value → World → Prop) (t0 t3 t4 t6 : Value) (w : World) : Prop :=
  ixs 20 t0 t4 (fun t151 w =>
  fd 4 t151 (fun t152 w =>
  fd 13 t152 (fun t153 w =>
  ld1 t153 (fun t154 w =>
  lnS t154 (fun t155 w =>
  boI .lss t6 t155 (fun t156 w =>
  ifb t156
  (s10_p7 K B1 B2 t0 t3 t4 t6 w)
  (s10_p3 K B1 t0 t3 t4 w)) w) w) w) w) w) w
def s10_p8_den (K : Value → World → Prop) (M1 : (Nat → Value) → World → Prop) (M2 : (Nat → Value) → World → Prop) : (Nat → Value) → World → Prop := denL Tryd.prog [(cd (Tryd.f10.body.getD .skip) [1, 1, 1, 0, 1, 0, 0, 1, 0, 0, 1, 1, 1, 1, 1, 1, 1, 1, 1, 1, 1, 1, 1, 1, 1, 1, 1, 1, 1, 0, 1, 0, 0, 0, 0]), (cd (Tryd.f10.body.getD .skip) [1, 1, 1, 0, 1, 0, 0, 1, 0, 0, 1, 1, 1, 1, 1, 1, 1, 1, 1, 1, 1, 1, 1, 1, 1, 1, 1, 1, 1, 0, 1, 0, 0, 0, 1])] (s10_p7_den K M1 M2) (fun i => (bif Nat.beq i 4 then (s10_p3_den K M1) else (bif Nat.beq i 1 then (s10_p2_den K M1) else (bif Nat.beq i 0 then (s10_p1_den K) else (fun _ _ => False))))) (s10_R K)
theorem s10_p8_ok (K : Value → World → Prop) (B1 : List Value → World → Prop) (B2 : List Value → World → Prop) (s : Nat → Value) (w : World) (h : s10_p8 K B1 B2 (s 0) (s 3) (s 4) (s 6) w) : Tr (s10_p8_den K (fun s w => B1 [s 0, s 3, s 4] w) (fun s w => B2 [s 0, s 3, s 4, s 6] w) s w) :=
  tr_simple (P := Tryd.prog) (codes := [(cd (Tryd.f10.body.getD .skip) [1, 1, 1, 0, 1, 0, 0, 1, 0, 0, 1, 1, 1, 1, 1, 1, 1, 1, 1, 1, 1, 1, 1, 1, 1, 1, 1, 1, 1, 0, 1, 0, 0, 0, 0]), (cd (Tryd.f10.body.getD .skip) [1, 1, 1, 0, 1, 0, 0, 1, 0, 0, 1, 1, 1, 1, 1, 1, 1, 1, 1, 1, 1, 1, 1, 1, 1, 1, 1, 1, 1, 0, 1, 0, 0, 0, 1])]) (N := (fun s w => s10_p7 K B1 B2 (s 0) (s 3) (s 4) (s 6) w)) (N' := (s10_p7_den K (fun s w => B1 [s 0, s 3, s 4] w) (fun s w => B2 [s 0, s 3, s 4, s 6] w))) (X := (fun i => (bif Nat.beq i 4 then (fun s w => s10_p3 K B1 (s 0) (s 3) (s 4) w) else (bif Nat.beq i 1 then (fun s w => s10_p2 K B1 (s 0) (s 3) (s 4) w) else (bif Nat.beq i 0 then (fun s w => s10_p1 K w) else (fun _ _ => False)))))) (X' := (fun i => (bif Nat.beq i 4 then (s10_p3_den K (fun s w => B1 [s 0, s 3, s 4] w)) else (bif Nat.beq i 1 then (s10_p2_den K (fun s w => B1 [s 0, s 3, s 4] w)) else (bif Nat.beq i 0 then (s10_p1_den K) else (fun _ _ => False)))))) (R := s10_R K) (s := s) (w := w) (p := s10_p8 K B1 B2 (s 0) (s 3) (s 4) (s 6) w) (q := s10_p8_den K (fun s w => B1 [s 0, s 3, s 4] w) (fun s w => B2 [s 0, s 3, s 4, s 6] w) s w) (fun s w h => s10_p7_ok K B1 B2 s w @h) (fun i => (tr_bif (fun s w h => s10_p3_ok K B1 s w @h) (tr_bif (fun s w h => s10_p2_ok K B1 s w @h) (tr_bif (fun s w h => s10_p1_ok K s w @h) tr_id)))) (by kernel_rfl) (by kernel_rfl) @h
def s10_p9_F (K : Value → World → Prop) (B1 : List Value → World → Prop) (B2 : List Value → World → Prop) (l : List Value) (w : World) : Prop :=
  match l with
  | [t0, t3, t4, t6] => s10_p8 K B1 B2 t0 t3 t4 t6 w
  | _ => False
theorem s10_p9_Fe {K : Value → World → Prop} {B1 : List Value → World → Prop} {B2 : List Value → World → Prop} {t0 t3 t4 t6 : Value} {w : World} : s10_p9_F K B1 B2 [t0, t3, t4, t6] w = s10_p8 K B1 B2 t0 t3 t4 t6 w := by kernel_rfl
def s10_p9 (K : Value → World → Prop) (B1 : List Value → World → Prop) (t0 t3 t4 t6 : Value) (w : World) : Prop :=
  LoopL (s10_p9_F K B1) [t0, t3, t4, t6] w
def s10_p9_den (K : Value → World → Prop) (M1 : (Nat → Value) → World → Prop) : (Nat → Value) → World → Prop := fun s w => LoopP (fun M2 s w => s10_p8_den K M1 M2 s w) s w
theorem s10_p9_ok (K : Value → World → Prop) (B1 : List Value → World → Prop) (s : Nat → Value) (w : World) (h : s10_p9 K B1 (s 0) (s 3) (s 4) (s 6) w) : Tr (s10_p9_den K (fun s w => B1 [s 0, s 3, s 4] w) s w) :=
  tr_loop (G := fun N' s w => s10_p8_den K (fun s w => B1 [s 0, s 3, s 4] w) N' s w) (F := s10_p9_F K B1) (sel := fun s => [s 0, s 3, s 4, s 6]) (s := s) (w := w) (p := s10_p9 K B1 (s 0) (s 3) (s 4) (s 6) w) (q := s10_p9_den K (fun s w => B1 [s 0, s 3, s 4] w) s w) (fun B s w h => s10_p8_ok K B1 B s w @h) (by kernel_rfl) (by kernel_rfl) @h
def s10_p10 (K : Value → World → Prop) (B1 : List Value → World → Prop) (t0 t3 t4 : Value) (w : World) : Prop :=
  ixs 20 t0 t4 (fun t81 w =>
  fd 4 t81 (fun t82 w =>
  fd 8 t82 (fun t83 w =>
  ld1 t83 (fun t84 w =>
  lnT t84 (fun t85 w =>
  boI .add t3 t85 (fun t86 w =>
  boI .gtr t86 (.int .i64 65536) (fun t88 w =>
  ifb t88
  (K (.bool false) w)
  (ixs 20 t0 t4 (fun t92 w =>
  fd 4 t92 (fun t93 w =>
  fd 9 t93 (fun t94 w =>
  fd 0 t94 (fun t95 w =>
  ld1 t95 (fun t96 w =>
  lnT t96 (fun t97 w =>
  boI .add t86 t97 (fun t98 w =>
  boI .gtr t98 (.int .i64 65536) (fun t100 w =>
  ifb t100
  (K (.bool false) w)
  (ixs 20 t0 t4 (fun t104 w =>
  fd 4 t104 (fun t105 w =>
  fd 9 t105 (fun t106 w =>
  fd 1 t106 (fun t107 w =>
  ld1 t107 (fun t108 w =>
  lnT t108 (fun t109 w =>
  boI .add t98 t109 (fun t110 w =>
  boI .gtr t110 (.int .i64 65536) (fun t112 w =>
  ifb t112
  (K (.bool false) w)
  (ixs 20 t0 t4 (fun t116 w =>
  fd 4 t116 (fun t117 w =>
  fd 11 t117 (fun t118 w =>
  fd 0 t118 (fun t119 w =>
  ld1 t119 (fun t120 w =>
  lnT t120 (fun t121 w =>
  boI .add t110 t121 (fun t122 w =>
  boI .gtr t122 (.int .i64 65536) (fun t124 w =>
  ifb t124
  (K (.bool false) w)
  (ixs 20 t0 t4 (fun t128 w =>
  fd 4 t128 (fun t129 w =>
  fd 11 t129 (fun t130 w =>
  fd 1 t130 (fun t131 w =>
  ld1 t131 (fun t132 w =>
  lnT t132 (fun t133 w =>
  boI .add t122 t133 (fun t134 w =>
  boI .gtr t134 (.int .i64 65536) (fun t136 w =>
  ifb t136
  (K (.bool false) w)
  (ixs 20 t0 t4 (fun t140 w =>
  fd 4 t140 (fun t141 w =>
  fd 13 t141 (fun t142 w =>
  ld1 t142 (fun t143 w =>
  lnS t143 (fun t144 w =>
  boI .add t134 t144 (fun t145 w =>
  boI .gtr t145 (.int .i64 65536) (fun t147 w =>
  ifb t147
  (K (.bool false) w)
  (s10_p9 K B1 t0 t145 t4 (.int .i64 0) w)) w) w) w) w) w) w) w)) w) w) w) w) w) w) w) w)) w) w) w) w) w) w) w) w)) w) w) w) w) w) w) w) w)) w) w) w) w) w) w) w) w)) w) w) w) w) w) w) w
def s10_p10_den (K : Value → World → Prop) (M1 : (Nat → Value) → World → Prop) : (Nat → Value) → World → Prop := denL Tryd.prog [(cd (Tryd.f10.body.getD .skip) [1, 1, 1, 0, 1, 0, 0, 1, 0, 0, 1, 1, 1, 1, 1, 1, 1, 0]), (cd (Tryd.f10.body.getD .skip) [1, 1, 1, 0, 1, 0, 0, 1, 0, 0, 1, 1, 1, 1, 1, 1, 1, 1, 0, 0]), (cd (Tryd.f10.body.getD .skip) [1, 1, 1, 0, 1, 0, 0, 1, 0, 0, 1, 1, 1, 1, 1, 1, 1, 1, 0, 1]), (cd (Tryd.f10.body.getD .skip) [1, 1, 1, 0, 1, 0, 0, 1, 0, 0, 1, 1, 1, 1, 1, 1, 1, 1, 1, 0]), (cd (Tryd.f10.body.getD .skip) [1, 1, 1, 0, 1, 0, 0, 1, 0, 0, 1, 1, 1, 1, 1, 1, 1, 1, 1, 1, 0, 0]), (cd (Tryd.f10.body.getD .skip) [1, 1, 1, 0, 1, 0, 0, 1, 0, 0, 1, 1, 1, 1, 1, 1, 1, 1, 1, 1, 0, 1]), (cd (Tryd.f10.body.getD .skip) [1, 1, 1, 0, 1, 0, 0, 1, 0, 0, 1, 1, 1, 1, 1, 1, 1, 1, 1, 1, 1, 0]), (cd (Tryd.f10.body.getD .skip) [1, 1, 1, 0, 1, 0, 0, 1, 0, 0, 1, 1, 1, 1, 1, 1, 1, 1, 1, 1, 1, 1, 0, 0]), (cd (Tryd.f10.body.getD .skip) [1, 1, 1, 0, 1, 0, 0, 1, 0, 0, 1, 1, 1, 1, 1, 1, 1, 1, 1, 1, 1, 1, 0, 1]), (cd (Tryd.f10.body.getD .skip) [1, 1, 1, 0, 1, 0, 0, 1, 0, 0, 1, 1, 1, 1, 1, 1, 1, 1, 1, 1, 1, 1, 1, 0]), (cd (Tryd.f10.body.getD .skip) [1, 1, 1, 0, 1, 0, 0, 1, 0, 0, 1, 1, 1, 1, 1, 1, 1, 1, 1, 1, 1, 1, 1, 1, 0, 0]), (cd (Tryd.f10.body.getD .skip) [1, 1, 1, 0, 1, 0, 0, 1, 0, 0, 1, 1, 1, 1, 1, 1, 1, 1, 1, 1, 1, 1, 1, 1, 0, 1]), (cd (Tryd.f10.body.getD .skip) [1, 1, 1, 0, 1, 0, 0, 1, 0, 0, 1, 1, 1, 1, 1, 1, 1, 1, 1, 1, 1, 1, 1, 1, 1, 0]), (cd (Tryd.f10.body.getD .skip) [1, 1, 1, 0, 1, 0, 0, 1, 0, 0, 1, 1, 1, 1, 1, 1, 1, 1, 1, 1, 1, 1, 1, 1, 1, 1, 0, 0]), (cd (Tryd.f10.body.getD .skip) [1, 1, 1, 0, 1, 0, 0, 1, 0, 0, 1, 1, 1, 1, 1, 1, 1, 1, 1, 1, 1, 1, 1, 1, 1, 1, 0, 1]), (cd (Tryd.f10.body.getD .skip) [1, 1, 1, 0, 1, 0, 0, 1, 0, 0, 1, 1, 1, 1, 1, 1, 1, 1, 1, 1, 1, 1, 1, 1, 1, 1, 1, 0]), (cd (Tryd.f10.body.getD .skip) [1, 1, 1, 0, 1, 0, 0, 1, 0, 0, 1, 1, 1, 1, 1, 1, 1, 1, 1, 1, 1, 1, 1, 1, 1, 1, 1, 1, 0, 0]), (cd (Tryd.f10.body.getD .skip) [1, 1, 1, 0, 1, 0, 0, 1, 0, 0, 1, 1, 1, 1, 1, 1, 1, 1, 1, 1, 1, 1, 1, 1, 1, 1, 1, 1, 0, 1]), (cd (Tryd.f10.body.getD .skip) [1, 1, 1, 0, 1, 0, 0, 1, 0, 0, 1, 1, 1, 1, 1, 1, 1, 1, 1, 1, 1, 1, 1, 1, 1, 1, 1, 1, 1, 0, 0])] (s10_p9_den K M1) (fun i => (bif Nat.beq i 1 then (s10_p2_den K M1) else (bif Nat.beq i 0 then (s10_p1_den K) else (fun _ _ => False)))) (s10_R K)
theorem s10_p10_ok (K : Value → World → Prop) (B1 : List Value → World → Prop) (s : Nat → Value) (w : World) (h : s10_p10 K B1 (s 0) (s 3) (s 4) w) : Tr (s10_p10_den K (fun s w => B1 [s 0, s 3, s 4] w) s w) :=
  tr_simple (P := Tryd.prog) (codes := [(cd (Tryd.f10.body.getD .skip) [1, 1, 1, 0, 1, 0, 0, 1, 0, 0, 1, 1, 1, 1, 1, 1, 1, 0]), (cd (Tryd.f10.body.getD .skip) [1, 1, 1, 0, 1, 0, 0, 1, 0, 0, 1, 1, 1, 1, 1, 1, 1, 1, 0, 0]), (cd (Tryd.f10.body.getD .skip) [1, 1, 1, 0, 1, 0, 0, 1, 0, 0, 1, 1, 1, 1, 1, 1, 1, 1, 0, 1]), (cd (Tryd.f10.body.getD .skip) [1, 1, 1, 0, 1, 0, 0, 1, 0, 0, 1, 1, 1, 1, 1, 1, 1, 1, 1, 0]), (cd (Tryd.f10.body.getD .skip) [1, 1, 1, 0, 1, 0, 0, 1, 0, 0, 1, 1, 1, 1, 1, 1, 1, 1, 1, 1, 0, 0]), (cd (Tryd.f10.body.getD .skip) [1, 1, 1, 0, 1, 0, 0, 1, 0, 0, 1, 1, 1, 1, 1, 1, 1, 1, 1, 1, 0, 1]), (cd (Tryd.f10.body.getD .skip) [1, 1, 1, 0, 1, 0, 0, 1, 0, 0, 1, 1, 1, 1, 1, 1, 1, 1, 1, 1, 1, 0]), (cd (Tryd.f10.body.getD .skip) [1, 1, 1, 0, 1, 0, 0, 1, 0, 0, 1, 1, 1, 1, 1, 1, 1, 1, 1, 1, 1, 1, 0, 0]), (cd (Tryd.f10.body.getD .skip) [1, 1, 1, 0, 1, 0, 0, 1, 0, 0, 1, 1, 1, 1, 1, 1, 1, 1, 1, 1, 1, 1, 0, 1]), (cd (Tryd.f10.body.getD .skip) [1, 1, 1, 0, 1, 0, 0, 1, 0, 0, 1, 1, 1, 1, 1, 1, 1, 1, 1, 1, 1, 1, 1, 0]), (cd (Tryd.f10.body.getD .skip) [1, 1, 1, 0, 1, 0, 0, 1, 0, 0, 1, 1, 1, 1, 1, 1, 1, 1, 1, 1, 1, 1, 1, 1, 0, 0]), (cd (Tryd.f10.body.getD .skip) [1, 1, 1, 0, 1, 0, 0, 1, 0, 0, 1, 1, 1, 1, 1, 1, 1, 1, 1, 1, 1, 1, 1, 1, 0, 1]), (cd (Tryd.f10.body.getD .skip) [1, 1, 1, 0, 1, 0, 0, 1, 0, 0, 1, 1, 1, 1, 1, 1, 1, 1, 1, 1, 1, 1, 1, 1, 1, 0]), (cd (Tryd.f10.body.getD .skip) [1, 1, 1, 0, 1, 0, 0, 1, 0, 0, 1, 1, 1, 1, 1, 1, 1, 1, 1, 1, 1, 1, 1, 1, 1, 1, 0, 0]), (cd (Tryd.f10.body.getD .skip) [1, 1, 1, 0, 1, 0, 0, 1, 0, 0, 1, 1, 1, 1, 1, 1, 1, 1, 1, 1, 1, 1, 1, 1, 1, 1, 0, 1]), (cd (Tryd.f10.body.getD .skip) [1, 1, 1, 0, 1, 0, 0, 1, 0, 0, 1, 1, 1, 1, 1, 1, 1, 1, 1, 1, 1, 1, 1, 1, 1, 1, 1, 0]), (cd (Tryd.f10.body.getD .skip) [1, 1, 1, 0, 1, 0, 0, 1, 0, 0, 1, 1, 1, 1, 1, 1, 1, 1, 1, 1, 1, 1, 1, 1, 1, 1, 1, 1, 0, 0]), (cd (Tryd.f10.body.getD .skip) [1, 1, 1, 0, 1, 0, 0, 1, 0, 0, 1, 1, 1, 1, 1, 1, 1, 1, 1, 1, 1, 1, 1, 1, 1, 1, 1, 1, 0, 1]), (cd (Tryd.f10.body.getD .skip) [1, 1, 1, 0, 1, 0, 0, 1, 0, 0, 1, 1, 1, 1, 1, 1, 1, 1, 1, 1, 1, 1, 1, 1, 1, 1, 1, 1, 1, 0, 0])]) (N := (fun s w => s10_p9 K B1 (s 0) (s 3) (s 4) (s 6) w)) (N' := (s10_p9_den K (fun s w => B1 [s 0, s 3, s 4] w))) (X := (fun i => (bif Nat.beq i 1 then (fun s w => s10_p2 K B1 (s 0) (s 3) (s 4) w) else (bif Nat.beq i 0 then (fun s w => s10_p1 K w) else (fun _ _ => False))))) (X' := (fun i => (bif Nat.beq i 1 then (s10_p2_den K (fun s w => B1 [s 0, s 3, s 4] w)) else (bif Nat.beq i 0 then (s10_p1_den K) else (fun _ _ => False))))) (R := s10_R K) (s := s) (w := w) (p := s10_p10 K B1 (s 0) (s 3) (s 4) w) (q := s10_p10_den K (fun s w => B1 [s 0, s 3, s 4] w) s w) (fun s w h => s10_p9_ok K B1 s w @h) (fun i => (tr_bif (fun s w h => s10_p2_ok K B1 s w @h) (tr_bif (fun s w h => s10_p1_ok K s w @h) tr_id))) (by kernel_rfl) (by kernel_rfl) @h
def s10_p11 (K : Value → World → Prop) (B1 : List Value → World → Prop) (B2 : List Value → World → Prop) (t0 t3 t4 t5 : Value) (w : World) : Prop :=
  ixs 20 t0 t4 (fun t56 w =>
  fd 4 t56 (fun t57 w =>
  fd 7 t57 (fun t58 w =>
  ld1 t58 (fun t59 w =>
  lnS t59 (fun t60 w =>
  boI .lss t5 t60 (fun t61 w =>
  ifb t61
  (ixs 20 t0 t4 (fun t67 w =>
  fd 4 t67 (fun t68 w =>
  fd 7 t68 (fun t69 w =>
  ld1 t69 (fun t70 w =>
  ixs 1 t70 t5 (fun t72 w =>
  ld1 t72 (fun t73 w =>
  lnT t73 (fun t74 w =>
  boI .add t3 t74 (fun t75 w =>
  boI .gtr t75 (.int .i64 65536) (fun t77 w =>
  ifb t77
  (K (.bool false) w)
  (boI .add t5 (.int .i64 1) (fun t63 w =>
  B2 [t0, t75, t4, t63] w) w)) w) w) w) w) w) w) w) w) w)
  (s10_p10 K B1 t0 t3 t4 w)) w) w) w) w) w) w
def s10_p11_den (K : Value → World → Prop) (M1 : (Nat → Value) → World → Prop) (M2 : (Nat → Value) → World → Prop) : (Nat → Value) → World → Prop := denL Tryd.prog [(cd (Tryd.f10.body.getD .skip) [1, 1, 1, 0, 1, 0, 0, 1, 0, 0, 1, 1, 1, 1, 1, 1, 0, 1, 0, 0, 0, 0]), (cd (Tryd.f10.body.getD .skip) [1, 1, 1, 0, 1, 0, 0, 1, 0, 0, 1, 1, 1, 1, 1, 1, 0, 1, 0, 0, 0, 1]), (cd (Tryd.f10.body.getD .skip) [1, 1, 1, 0, 1, 0, 0, 1, 0, 0, 1, 1, 1, 1, 1, 1, 0, 1, 0, 0, 1, 0]), (cd (Tryd.f10.body.getD .skip) [1, 1, 1, 0, 1, 0, 0, 1, 0, 0, 1, 1, 1, 1, 1, 1, 0, 1, 0, 0, 1, 1])] M2 (fun i => (bif Nat.beq i 2 then (s10_p10_den K M1) else (bif Nat.beq i 1 then (s10_p2_den K M1) else (bif Nat.beq i 0 then (s10_p1_den K) else (fun _ _ => False))))) (s10_R K)
theorem s10_p11_ok (K : Value → World → Prop) (B1 : List Value → World → Prop) (B2 : List Value → World → Prop) (s : Nat → Value) (w : World) (h : s10_p11 K B1 B2 (s 0) (s 3) (s 4) (s 5) w) : Tr (s10_p11_den K (fun s w => B1 [s 0, s 3, s 4] w) (fun s w => B2 [s 0, s 3, s 4, s 5] w) s w) :=
  tr_simple (P := Tryd.prog) (codes := [(cd (Tryd.f10.body.getD .skip) [1, 1, 1, 0, 1, 0, 0, 1, 0, 0, 1, 1, 1, 1, 1, 1, 0, 1, 0, 0, 0, 0]), (cd (Tryd.f10.body.getD .skip) [1, 1, 1, 0, 1, 0, 0, 1, 0, 0, 1, 1, 1, 1, 1, 1, 0, 1, 0, 0, 0, 1]), (cd (Tryd.f10.body.getD .skip) [1, 1, 1, 0, 1, 0, 0, 1, 0, 0, 1, 1, 1, 1, 1, 1, 0, 1, 0, 0, 1, 0]), (cd (Tryd.f10.body.getD .skip) [1, 1, 1, 0, 1, 0, 0, 1, 0, 0, 1, 1, 1, 1, 1, 1, 0, 1, 0, 0, 1, 1])]) (N := (fun s w => B2 [s 0, s 3, s 4, s 5] w)) (N' := (fun s w => B2 [s 0, s 3, s 4, s 5] w)) (X := (fun i => (bif Nat.beq i 2 then (fun s w => s10_p10 K B1 (s 0) (s 3) (s 4) w) else (bif Nat.beq i 1 then (fun s w => s10_p2 K B1 (s 0) (s 3) (s 4) w) else (bif Nat.beq i 0 then (fun s w => s10_p1 K w) else (fun _ _ => False)))))) (X' := (fun i => (bif Nat.beq i 2 then (s10_p10_den K (fun s w => B1 [s 0, s 3, s 4] w)) else (bif Nat.beq i 1 then (s10_p2_den K (fun s w => B1 [s 0, s 3, s 4] w)) else (bif Nat.beq i 0 then (s10_p1_den K) else (fun _ _ => False)))))) (R := s10_R K) (s := s) (w := w) (p := s10_p11 K B1 B2 (s 0) (s 3) (s 4) (s 5) w) (q := s10_p11_den K (fun s w => B1 [s 0, s 3, s 4] w) (fun s w => B2 [s 0, s 3, s 4, s 5] w) s w) tr_id (fun i => (tr_bif (fun s w h => s10_p10_ok K B1 s w @h) (tr_bif (fun s w h => s10_p2_ok K B1 s w @h) (tr_bif (fun s w h => s10_p1_ok K s w @h) tr_id)))) (by kernel_rfl) (by kernel_rfl) @h
def s10_p12_F (K : Value → World → Prop) (B1 : List Value → World → Prop) (B2 : List Value → World → Prop) (l : List Value) (w : World) : Prop :=
  match l with
  | [t0, t3, t4, t5] => s10_p11 K B1 B2 t0 t3 t4 t5 w
  | _ => False
theorem s10_p12_Fe {K : Value → World → Prop} {B1 : List Value → World → Prop} {B2 : List Value → World → Prop} {t0 t3 t4 t5 : Value} {w : World} : s10_p12_F K B1 B2 [t0, t3, t4, t5] w = s10_p11 K B1 B2 t0 t3 t4 t5 w := by kernel_rfl
def s10_p12 (K : Value → World → Prop) (B1 : List Value → World → Prop) (t0 t3 t4 t5 : Value) (w : World) : Prop :=
  LoopL (s10_p12_F K B1) [t0, t3, t4, t5] w
def s10_p12_den (K : Value → World → Prop) (M1 : (Nat → Value) → World → Prop) : (Nat → Value) → World → Prop := fun s w => LoopP (fun M2 s w => s10_p11_den K M1 M2 s w) s w
theorem s10_p12_ok (K : Value → World → Prop) (B1 : List Value → World → Prop) (s : Nat → Value) (w : World) (h : s10_p12 K B1 (s 0) (s 3) (s 4) (s 5) w) : Tr (s10_p12_den K (fun s w => B1 [s 0, s 3, s 4] w) s w) :=
  tr_loop (G := fun N' s w => s10_p11_den K (fun s w => B1 [s 0, s 3, s 4] w) N' s w) (F := s10_p12_F K B1) (sel := fun s => [s 0, s 3, s 4, s 5]) (s := s) (w := w) (p := s10_p12 K B1 (s 0) (s 3) (s 4) (s 5) w) (q := s10_p12_den K (fun s w => B1 [s 0, s 3, s 4] w) s w) (fun B s w h => s10_p11_ok K B1 B s w @h) (by kernel_rfl) (by kernel_rfl) @h
def s10_p13 (K : Value → World → Prop) (B1 : List Value → World → Prop) (t0 t3 t4 : Value) (w : World) : Prop :=
  ixs 20 t0 t4 (fun t21 w =>
  fd 4 t21 (fun t22 w =>
  fd 5 t22 (fun t23 w =>
  fd 0 t23 (fun t24 w =>
  ld1 t24 (fun t25 w =>
  lnT t25 (fun t26 w =>
  boI .add t3 t26 (fun t27 w =>
  boI .gtr t27 (.int .i64 65536) (fun t29 w =>
  ifb t29
  (K (.bool false) w)
  (ixs 20 t0 t4 (fun t33 w =>
  fd 4 t33 (fun t34 w =>
  fd 5 t34 (fun t35 w =>
  fd 1 t35 (fun t36 w =>
  ld1 t36 (fun t37 w =>
  lnT t37 (fun t38 w =>
  boI .add t27 t38 (fun t39 w =>
  boI .gtr t39 (.int .i64 65536) (fun t41 w =>
  ifb t41
  (K (.bool false) w)
  (ixs 20 t0 t4 (fun t45 w =>
  fd 4 t45 (fun t46 w =>
  fd 7 t46 (fun t47 w =>
  ld1 t47 (fun t48 w =>
  lnS t48 (fun t49 w =>
  boI .add t39 t49 (fun t50 w =>
  boI .gtr t50 (.int .i64 65536) (fun t52 w =>
  ifb t52
  (K (.bool false) w)
  (s10_p12 K B1 t0 t50 t4 (.int .i64 0) w)) w) w) w) w) w) w) w)) w) w) w) w) w) w) w) w)) w) w) w) w) w) w) w) w
def s10_p13_den (K : Value → World → Prop) (M1 : (Nat → Value) → World → Prop) : (Nat → Value) → World → Prop := denL Tryd.prog [(cd (Tryd.f10.body.getD .skip) [1, 1, 1, 0, 1, 0, 0, 1, 0, 0, 0]), (cd (Tryd.f10.body.getD .skip) [1, 1, 1, 0, 1, 0, 0, 1, 0, 0, 1, 0, 0]), (cd (Tryd.f10.body.getD .skip) [1, 1, 1, 0, 1, 0, 0, 1, 0, 0, 1, 0, 1]), (cd (Tryd.f10.body.getD .skip) [1, 1, 1, 0, 1, 0, 0, 1, 0, 0, 1, 1, 0]), (cd (Tryd.f10.body.getD .skip) [1, 1, 1, 0, 1, 0, 0, 1, 0, 0, 1, 1, 1, 0, 0]), (cd (Tryd.f10.body.getD .skip) [1, 1, 1, 0, 1, 0, 0, 1, 0, 0, 1, 1, 1, 0, 1]), (cd (Tryd.f10.body.getD .skip) [1, 1, 1, 0, 1, 0, 0, 1, 0, 0, 1, 1, 1, 1, 0]), (cd (Tryd.f10.body.getD .skip) [1, 1, 1, 0, 1, 0, 0, 1, 0, 0, 1, 1, 1, 1, 1, 0, 0]), (cd (Tryd.f10.body.getD .skip) [1, 1, 1, 0, 1, 0, 0, 1, 0, 0, 1, 1, 1, 1, 1, 0, 1]), (cd (Tryd.f10.body.getD .skip) [1, 1, 1, 0, 1, 0, 0, 1, 0, 0, 1, 1, 1, 1, 1, 1, 0, 0])] (s10_p12_den K M1) (fun i => (bif Nat.beq i 1 then (s10_p2_den K M1) else (bif Nat.beq i 0 then (s10_p1_den K) else (fun _ _ => False)))) (s10_R K)
theorem s10_p13_ok (K : Value → World → Prop) (B1 : List Value → World → Prop) (s : Nat → Value) (w : World) (h : s10_p13 K B1 (s 0) (s 3) (s 4) w) : Tr (s10_p13_den K (fun s w => B1 [s 0, s 3, s 4] w) s w) :=
  tr_simple (P := Tryd.prog) (codes := [(cd (Tryd.f10.body.getD .skip) [1, 1, 1, 0, 1, 0, 0, 1, 0, 0, 0]), (cd (Tryd.f10.body.getD .skip) [1, 1, 1, 0, 1, 0, 0, 1, 0, 0, 1, 0, 0]), (cd (Tryd.f10.body.getD .skip) [1, 1, 1, 0, 1, 0, 0, 1, 0, 0, 1, 0, 1]), (cd (Tryd.f10.body.getD .skip) [1, 1, 1, 0, 1, 0, 0, 1, 0, 0, 1, 1, 0]), (cd (Tryd.f10.body.getD .skip) [1, 1, 1, 0, 1, 0, 0, 1, 0, 0, 1, 1, 1, 0, 0]), (cd (Tryd.f10.body.getD .skip) [1, 1, 1, 0, 1, 0, 0, 1, 0, 0, 1, 1, 1, 0, 1]), (cd (Tryd.f10.body.getD .skip) [1, 1, 1, 0, 1, 0, 0, 1, 0, 0, 1, 1, 1, 1, 0]), (cd (Tryd.f10.body.getD .skip) [1, 1, 1, 0, 1, 0, 0, 1, 0, 0, 1, 1, 1, 1, 1, 0, 0]), (cd (Tryd.f10.body.getD .skip) [1, 1, 1, 0, 1, 0, 0, 1, 0, 0, 1, 1, 1, 1, 1, 0, 1]), (cd (Tryd.f10.body.getD .skip) [1, 1, 1, 0, 1, 0, 0, 1, 0, 0, 1, 1, 1, 1, 1, 1, 0, 0])]) (N := (fun s w => s10_p12 K B1 (s 0) (s 3) (s 4) (s 5) w)) (N' := (s10_p12_den K (fun s w => B1 [s 0, s 3, s 4] w))) (X := (fun i => (bif Nat.beq i 1 then (fun s w => s10_p2 K B1 (s 0) (s 3) (s 4) w) else (bif Nat.beq i 0 then (fun s w => s10_p1 K w) else (fun _ _ => False))))) (X' := (fun i => (bif Nat.beq i 1 then (s10_p2_den K (fun s w => B1 [s 0, s 3, s 4] w)) else (bif Nat.beq i 0 then (s10_p1_den K) else (fun _ _ => False))))) (R := s10_R K) (s := s) (w := w) (p := s10_p13 K B1 (s 0) (s 3) (s 4) w) (q := s10_p13_den K (fun s w => B1 [s 0, s 3, s 4] w) s w) (fun s w h => s10_p12_ok K B1 s w @h) (fun i => (tr_bif (fun s w h => s10_p2_ok K B1 s w @h) (tr_bif (fun s w h => s10_p1_ok K s w @h) tr_id))) (by kernel_rfl) (by kernel_rfl) @h
def s10_p14 (K : Value → World → Prop) (B1 : List Value → World → Prop) (t0 t3 t4 : Value) (w : World) : Prop :=
  lnS t0 (fun t14 w =>
  boI .lss t4 t14 (fun t15 w =>
  ifb t15
  (s10_p13 K B1 t0 t3 t4 w)
  (s10_p1 K w)) w) w
def s10_p14_den (K : Value → World → Prop) (M1 : (Nat → Value) → World → Prop) : (Nat → Value) → World → Prop := denL Tryd.prog [(cd (Tryd.f10.body.getD .skip) [1, 1, 1, 0, 1, 0, 0, 0, 0]), (cd (Tryd.f10.body.getD .skip) [1, 1, 1, 0, 1, 0, 0, 0, 1])] (s10_p13_den K M1) (fun i => (bif Nat.beq i 0 then (s10_p1_den K) else (fun _ _ => False))) (s10_R K)
theorem s10_p14_ok (K : Value → World → Prop) (B1 : List Value → World → Prop) (s : Nat → Value) (w : World) (h : s10_p14 K B1 (s 0) (s 3) (s 4) w) : Tr (s10_p14_den K (fun s w => B1 [s 0, s 3, s 4] w) s w) :=
  tr_simple (P := Tryd.prog) (codes := [(cd (Tryd.f10.body.getD .skip) [1, 1, 1, 0, 1, 0, 0, 0, 0]), (cd (Tryd.f10.body.getD .skip) [1, 1, 1, 0, 1, 0, 0, 0, 1])]) (N := (fun s w => s10_p13 K B1 (s 0) (s 3) (s 4) w)) (N' := (s10_p13_den K (fun s w => B1 [s 0, s 3, s 4] w))) (X := (fun i => (bif Nat.beq i 0 then (fun s w => s10_p1 K w) else (fun _ _ => False)))) (X' := (fun i => (bif Nat.beq i 0 then (s10_p1_den K) else (fun _ _ => False)))) (R := s10_R K) (s := s) (w := w) (p := s10_p14 K B1 (s 0) (s 3) (s 4) w) (q := s10_p14_den K (fun s w => B1 [s 0, s 3, s 4] w) s w) (fun s w h => s10_p13_ok K B1 s w @h) (fun i => (tr_bif (fun s w h => s10_p1_ok K s w @h) tr_id)) (by kernel_rfl) (by kernel_rfl) @h
def s10_p15_F (K : Value → World → Prop) (B1 : List Value → World → Prop) (l : List Value) (w : World) : Prop :=
  match l with
  | [t0, t3, t4] => s10_p14 K B1 t0 t3 t4 w
  | _ => False
theorem s10_p15_Fe {K : Value → World → Prop} {B1 : List Value → World → Prop} {t0 t3 t4 : Value} {w : World} : s10_p15_F K B1 [t0, t3, t4] w = s10_p14 K B1 t0 t3 t4 w := by kernel_rfl
def s10_p15 (K : Value → World → Prop) (t0 t3 t4 : Value) (w : World) : Prop :=
  LoopL (s10_p15_F K) [t0, t3, t4] w
def s10_p15_den (K : Value → World → Prop) : (Nat → Value) → World → Prop := fun s w => LoopP (fun M1 s w => s10_p14_den K M1 s w) s w
theorem s10_p15_ok (K : Value → World → Prop) (s : Nat → Value) (w : World) (h : s10_p15 K (s 0) (s 3) (s 4) w) : Tr (s10_p15_den K s w) :=
  tr_loop (G := fun N' s w => s10_p14_den K N' s w) (F := s10_p15_F K) (sel := fun s => [s 0, s 3, s 4]) (s := s) (w := w) (p := s10_p15 K (s 0) (s 3) (s 4) w) (q := s10_p15_den K s w) (fun B s w h => s10_p14_ok K B s w @h) (by kernel_rfl) (by kernel_rfl) @h
def s10_p16 (K : Value → World → Prop) (t0 : Value) (w : World) : Prop :=
  lnS t0 (fun t9 w =>
  boI .gtr t9 (.int .i64 65536) (fun t11 w =>
  ifb t11
  (K (.bool false) w)
  (s10_p15 K t0 t9 (.int .i64 0) w)) w) w
def s10_p16_den (K : Value → World → Prop) : (Nat → Value) → World → Prop := denL Tryd.prog [(cd (Tryd.f10.body.getD .skip) [0]), (cd (Tryd.f10.body.getD .skip) [1, 0]), (cd (Tryd.f10.body.getD .skip) [1, 1, 0, 0]), (cd (Tryd.f10.body.getD .skip) [1, 1, 0, 1]), (cd (Tryd.f10.body.getD .skip) [1, 1, 1, 0, 0])] (s10_p15_den K) (fun i => (fun _ _ => False)) (s10_R K)
theorem s10_p16_ok (K : Value → World → Prop) (s : Nat → Value) (w : World) (h : s10_p16 K (s 0) w) : Tr (s10_p16_den K s w) :=
  tr_simple (P := Tryd.prog) (codes := [(cd (Tryd.f10.body.getD .skip) [0]), (cd (Tryd.f10.body.getD .skip) [1, 0]), (cd (Tryd.f10.body.getD .skip) [1, 1, 0, 0]), (cd (Tryd.f10.body.getD .skip) [1, 1, 0, 1]), (cd (Tryd.f10.body.getD .skip) [1, 1, 1, 0, 0])]) (N := (fun s w => s10_p15 K (s 0) (s 3) (s 4) w)) (N' := (s10_p15_den K)) (X := (fun i => (fun _ _ => False))) (X' := (fun i => (fun _ _ => False))) (R := s10_R K) (s := s) (w := w) (p := s10_p16 K (s 0) w) (q := s10_p16_den K s w) (fun s w h => s10_p15_ok K s w @h) (fun i => tr_id) (by kernel_rfl) (by kernel_rfl) @h
/-- the call, from the text -/
theorem c10 (t0 : Value) {K : Value → World → Prop} {w : World} (h : s10_p16 K t0 w) : cl Tryd.prog 10 #[t0] K w :=
  calls_of_tr (c := (Tryd.f10.body.getD .skip)) (fn := Tryd.f10) (q := s10_p16_den K (st0 #[t0]) w) Tryd.func10 (by kernel_rfl) (by kernel_rfl) (Nat.le_of_ble_eq_true (by kernel_rfl)) (by kernel_rfl) (by kernel_rfl) (s10_p16_ok K (st0 #[t0]) w @h)

/-! ### function 25 : e2e.record.AppendRejection -/
def s25_R (K : Value → World → Prop) (s : Nat → Value) (w : World) : Prop := retv Tryd.prog s Tryd.f25.results.toList (fun vs => K (pack vs) w) w
def s25_p1 (K : Value → World → Prop) (t4 : Value) (w : World) : Prop :=
  K t4 w
def s25_p1_den (K : Value → World → Prop) : (Nat → Value) → World → Prop := denL Tryd.prog [(cd (Tryd.f25.body.getD .skip) [1, 1])] (fun _ _ => False) (fun i => (fun _ _ => False)) (s25_R K)
theorem s25_p1_ok (K : Value → World → Prop) (s : Nat → Value) (w : World) (h : s25_p1 K (s 4) w) : Tr (s25_p1_den K s w) :=
  tr_simple (P := Tryd.prog) (codes := [(cd (Tryd.f25.body.getD .skip) [1, 1])]) (N := (fun _ _ => False)) (N' := (fun _ _ => False)) (X := (fun i => (fun _ _ => False))) (X' := (fun i => (fun _ _ => False))) (R := s25_R K) (s := s) (w := w) (p := s25_p1 K (s 4) w) (q := s25_p1_den K s w) tr_id (fun i => tr_id) (by kernel_rfl) (by kernel_rfl) @h
def s25_p2_d (K : Value → World → Prop) (t0 t3 : Value) (w0 w : World) : Prop :=
  fd 4 t3 (fun t6 _ =>
  ld1 t6 (fun t7 _ =>
  fd 0 t3 (fun t10 _ =>
  ldn 4 t10 (fun t11 _ =>
  bsq 5 [(.int .u8 0)] 1 [(some (0, 1), t7)] (fun t8 w =>
  Below w0.heap.size w0 w ∧
  apq 5 [(.int .u8 0)] 1 t0 t8 (fun t9 w =>
  Below w0.heap.size w0 w ∧
  cl Tryd.prog 49 #[t9, t11] (fun t12 w =>
  s25_p1 K t12 w) w) w) w) w0) w0) w0) w0
def s25_p2 (K : Value → World → Prop) (t0 t3 : Value) (w : World) : Prop := s25_p2_d K t0 t3 (drw w) (drw w)
def s25_p2_den (K : Value → World → Prop) : (Nat → Value) → World → Prop := denL Tryd.prog [(cd (Tryd.f25.body.getD .skip) [1, 0])] (s25_p1_den K) (fun i => (fun _ _ => False)) (s25_R K)
theorem s25_p2_ok (K : Value → World → Prop) (s : Nat → Value) (w : World) (h : s25_p2 K (s 0) (s 3) w) : Tr (s25_p2_den K s w) :=
  tr_draw (P := Tryd.prog) (ops := (ro (cd (Tryd.f25.body.getD .skip) [1, 0]))) (ms := [0, 0, 2, 6, 15, 0, 32, 127, 255]) (cs := [0, 1, 2, 5, 6]) (N := (fun s w => s25_p1 K (s 4) w)) (N' := (s25_p1_den K)) (s := s) (w := w) (p := s25_p2 K (s 0) (s 3) w) (q := s25_p2_den K s w) (by kernel_rfl) (by kernel_rfl) (fun s w h => s25_p1_ok K s w @h) (by kernel_rfl) (by kernel_rfl) @h
def s25_p3 (K : Value → World → Prop) (t0 t1 : Value) (w : World) : Prop :=
  nw 70 (t1).cells (fun t3 w =>
  s25_p2 K t0 t3 w) w
def s25_p3_den (K : Value → World → Prop) : (Nat → Value) → World → Prop := denL Tryd.prog [(cd (Tryd.f25.body.getD .skip) [0])] (s25_p2_den K) (fun i => (fun _ _ => False)) (s25_R K)
theorem s25_p3_ok (K : Value → World → Prop) (s : Nat → Value) (w : World) (h : s25_p3 K (s 0) (s 1) w) : Tr (s25_p3_den K s w) :=
  tr_simple (P := Tryd.prog) (codes := [(cd (Tryd.f25.body.getD .skip) [0])]) (N := (fun s w => s25_p2 K (s 0) (s 3) w)) (N' := (s25_p2_den K)) (X := (fun i => (fun _ _ => False))) (X' := (fun i => (fun _ _ => False))) (R := s25_R K) (s := s) (w := w) (p := s25_p3 K (s 0) (s 1) w) (q := s25_p3_den K s w) (fun s w h => s25_p2_ok K s w @h) (fun i => tr_id) (by kernel_rfl) (by kernel_rfl) @h
/-- the call, from the text -/
theorem c25 (t0 t1 : Value) {K : Value → World → Prop} {w : World} (h : s25_p3 K t0 t1 w) : cl Tryd.prog 25 #[t0, t1] K w :=
  calls_of_tr (c := (Tryd.f25.body.getD .skip)) (fn := Tryd.f25) (q := s25_p3_den K (st0 #[t0, t1]) w) Tryd.func25 (by kernel_rfl) (by kernel_rfl) (Nat.le_of_ble_eq_true (by kernel_rfl)) (by kernel_rfl) (by kernel_rfl) (s25_p3_ok K (st0 #[t0, t1]) w @h)

/-! ### function 26 : e2e.record.DecodeRejection -/
def s26_R (K : Value → World → Prop) (s : Nat → Value) (w : World) : Prop := retv Tryd.prog s Tryd.f26.results.toList (fun vs => K (pack vs) w) w
def s26_p1 (K : Value → World → Prop) (t2 t5 : Value) (w : World) : Prop :=
  ldn 5 t5 (fun t31 w =>
  stn 5 t2 t31 (fun w =>
  ldn 5 t2 (fun r0 _ =>
  K (.tuple #[r0, .nilIface]) w) w) w) w
def s26_p1_den (K : Value → World → Prop) : (Nat → Value) → World → Prop := denL Tryd.prog [(cd (Tryd.f26.body.getD .skip) [1, 1, 1, 1, 0]), (cd (Tryd.f26.body.getD .skip) [1, 1, 1, 1, 1])] (fun _ _ => False) (fun i => (fun _ _ => False)) (s26_R K)
theorem s26_p1_ok (K : Value → World → Prop) (s : Nat → Value) (w : World) (h : s26_p1 K (s 2) (s 5) w) : Tr (s26_p1_den K s w) :=
  tr_simple (P := Tryd.prog) (codes := [(cd (Tryd.f26.body.getD .skip) [1, 1, 1, 1, 0]), (cd (Tryd.f26.body.getD .skip) [1, 1, 1, 1, 1])]) (N := (fun _ _ => False)) (N' := (fun _ _ => False)) (X := (fun i => (fun _ _ => False))) (X' := (fun i => (fun _ _ => False))) (R := s26_R K) (s := s) (w := w) (p := s26_p1 K (s 2) (s 5) w) (q := s26_p1_den K s w) tr_id (fun i => tr_id) (by kernel_rfl) (by kernel_rfl) @h
def s26_p2 (K : Value → World → Prop) (t2 t3 : Value) (w : World) : Prop :=
  ldn 5 t2 (fun r0 _ =>
  K (.tuple #[r0, t3]) w) w
def s26_p2_den (K : Value → World → Prop) : (Nat → Value) → World → Prop := denL Tryd.prog [(cd (Tryd.f26.body.getD .skip) [1, 1, 1, 0, 1, 0, 1])] (fun _ _ => False) (fun i => (fun _ _ => False)) (s26_R K)
theorem s26_p2_ok (K : Value → World → Prop) (s : Nat → Value) (w : World) (h : s26_p2 K (s 2) (s 3) w) : Tr (s26_p2_den K s w) :=
  tr_simple (P := Tryd.prog) (codes := [(cd (Tryd.f26.body.getD .skip) [1, 1, 1, 0, 1, 0, 1])]) (N := (fun _ _ => False)) (N' := (fun _ _ => False)) (X := (fun i => (fun _ _ => False))) (X' := (fun i => (fun _ _ => False))) (R := s26_R K) (s := s) (w := w) (p := s26_p2 K (s 2) (s 3) w) (q := s26_p2_den K s w) tr_id (fun i => tr_id) (by kernel_rfl) (by kernel_rfl) @h
def s26_p3_d (K : Value → World → Prop) (t2 : Value) (w : World) : Prop :=
  (bdq [(.int .i64 0), (.int .i64 0), (.int .i64 0), (.int .i64 0), (.int .u8 0)] [] (fun t29 w =>
  (ld1 (.pointer (some ⟨0, 0, none⟩)) (fun t30 w =>
  stn 5 t2 t29 (fun w =>
  s26_p2 K t2 t30 w) w) w) ∧
  (stn 5 t2 t29 (fun w =>
  ld1 (.pointer (some ⟨0, 0, none⟩)) (fun t30_2 w =>
  s26_p2 K t2 t30_2 w) w) w)) w) ∧
  (ld1 (.pointer (some ⟨0, 0, none⟩)) (fun t30_3 w =>
  bdq [(.int .i64 0), (.int .i64 0), (.int .i64 0), (.int .i64 0), (.int .u8 0)] [] (fun t29_2 w =>
  stn 5 t2 t29_2 (fun w =>
  s26_p2 K t2 t30_3 w) w) w) w)
def s26_p3 (K : Value → World → Prop) (t2 : Value) (w : World) : Prop := s26_p3_d K t2 (drw w)
def s26_p3_den (K : Value → World → Prop) : (Nat → Value) → World → Prop := denL Tryd.prog [(cd (Tryd.f26.body.getD .skip) [1, 1, 1, 0, 1, 0, 0])] (s26_p2_den K) (fun i => (fun _ _ => False)) (s26_R K)
theorem s26_p3_ok (K : Value → World → Prop) (s : Nat → Value) (w : World) (h : s26_p3 K (s 2) w) : Tr (s26_p3_den K s w) :=
  tr_draw (P := Tryd.prog) (ops := (ro (cd (Tryd.f26.body.getD .skip) [1, 1, 1, 0, 1, 0, 0]))) (ms := [0, 0, 1, 7]) (cs := []) (N := (fun s w => s26_p2 K (s 2) (s 3) w)) (N' := (s26_p2_den K)) (s := s) (w := w) (p := s26_p3 K (s 2) w) (q := s26_p3_den K s w) (by kernel_rfl) (by kernel_rfl) (fun s w h => s26_p2_ok K s w @h) (by kernel_rfl) (by kernel_rfl) @h
def s26_p4 (K : Value → World → Prop) (t2 t5 t28 : Value) (w : World) : Prop :=
  ifb t28
  (s26_p3 K t2 w)
  (s26_p1 K t2 t5 w)
def s26_p4_den (K : Value → World → Prop) : (Nat → Value) → World → Prop := fun s w => ifb (ev s (.tmp 28)) ((s26_p3_den K) s w) ((s26_p1_den K) s w)
theorem s26_p4_ok (K : Value → World → Prop) (s : Nat → Value) (w : World) (h : s26_p4 K (s 2) (s 5) (s 28) w) : Tr (s26_p4_den K s w) :=
  tr_cond (v := ev s (.tmp 28)) (a := (fun s w => s26_p3 K (s 2) w) s w) (a' := (s26_p3_den K) s w) (b := (fun s w => s26_p1 K (s 2) (s 5) w) s w) (b' := (s26_p1_den K) s w) (p := s26_p4 K (s 2) (s 5) (s 28) w) (q := s26_p4_den K s w) ((fun s w h => s26_p3_ok K s w @h) s w) ((fun s w h => s26_p1_ok K s w @h) s w) (by kernel_rfl) (by kernel_rfl) @h
def s26_p5 (K : Value → World → Prop) (t0 : Value) (w : World) : Prop :=
  nw 70 #[(.int .i64 0), (.int .i64 0), (.int .i64 0), (.int .i64 0), (.int .u8 0)] (fun t2 w =>
  bdq [(.slice none 0 0), (.bool false)] [(some (0, 1), t0)] (fun t7 w =>
  nw 122 #[(.slice none 0 0), (.bool false)] (fun t4 w =>
  stn 2 t4 t7 (fun w =>
  cl Tryd.prog 54 #[t4] (fun t8 w =>
  cl Tryd.prog 55 #[t4] (fun t9 w =>
  bdq [(.int .i64 0), (.int .i64 0), (.int .i64 0), (.int .i64 0), (.int .u8 0)] [(some (4, 1), t8), (some (0, 4), t9)] (fun t10 w =>
  nw 70 #[(.int .i64 0), (.int .i64 0), (.int .i64 0), (.int .i64 0), (.int .u8 0)] (fun t5 w =>
  stn 5 t5 t10 (fun w =>
  fd 1 t4 (fun t11 w =>
  ld1 t11 (fun t12 w =>
  gd t12 false (fd 0 t4) (fun t14 w =>
  gd t12 false (ld1 t14) (fun t15 w =>
  gd t12 false (lnS t15) (fun t16 w =>
  gd t12 false (boI .neq t16 (.int .i64 0)) (fun t17 w =>
  pk t12 (.bool true) t17 (fun t18 w =>
  gd t18 false (fd 4 t5) (fun t20 w =>
  gd t18 false (ld1 t20) (fun t21 w =>
  gd t18 false (boI .eql t21 (.int .u8 0)) (fun t22 w =>
  pk t18 (.bool true) t22 (fun t23 w =>
  gd t23 false (fd 4 t5) (fun t25 w =>
  gd t23 false (ld1 t25) (fun t26 w =>
  gd t23 false (boI .geq t26 (.int .u8 16)) (fun t27 w =>
  pk t23 (.bool true) t27 (fun t28 w =>
  s26_p4 K t2 t5 t28 w) w) w) w) w) w) w) w) w) w) w) w) w) w) w) w) w) w) w) w) w) w) w) w) w
def s26_p5_den (K : Value → World → Prop) : (Nat → Value) → World → Prop := denL Tryd.prog [(cd (Tryd.f26.body.getD .skip) [0]), (cd (Tryd.f26.body.getD .skip) [1, 0]), (cd (Tryd.f26.body.getD .skip) [1, 1, 0]), (cd (Tryd.f26.body.getD .skip) [1, 1, 1, 0, 0])] (s26_p4_den K) (fun i => (fun _ _ => False)) (s26_R K)
theorem s26_p5_ok (K : Value → World → Prop) (s : Nat → Value) (w : World) (h : s26_p5 K (s 0) w) : Tr (s26_p5_den K s w) :=
  tr_simple (P := Tryd.prog) (codes := [(cd (Tryd.f26.body.getD .skip) [0]), (cd (Tryd.f26.body.getD .skip) [1, 0]), (cd (Tryd.f26.body.getD .skip) [1, 1, 0]), (cd (Tryd.f26.body.getD .skip) [1, 1, 1, 0, 0])]) (N := (fun s w => s26_p4 K (s 2) (s 5) (s 28) w)) (N' := (s26_p4_den K)) (X := (fun i => (fun _ _ => False))) (X' := (fun i => (fun _ _ => False))) (R := s26_R K) (s := s) (w := w) (p := s26_p5 K (s 0) w) (q := s26_p5_den K s w) (fun s w h => s26_p4_ok K s w @h) (fun i => tr_id) (by kernel_rfl) (by kernel_rfl) @h
/-- the call, from the text -/
theorem c26 (t0 : Value) {K : Value → World → Prop} {w : World} (h : s26_p5 K t0 w) : cl Tryd.prog 26 #[t0] K w :=
  calls_of_tr (c := (Tryd.f26.body.getD .skip)) (fn := Tryd.f26) (q := s26_p5_den K (st0 #[t0]) w) Tryd.func26 (by kernel_rfl) (by kernel_rfl) (Nat.le_of_ble_eq_true (by kernel_rfl)) (by kernel_rfl) (by kernel_rfl) (s26_p5_ok K (st0 #[t0]) w @h)

/-! ### function 38 : e2e.recordlaw.zzDeep1 -/
def s38_R (K : Value → World → Prop) (s : Nat → Value) (w : World) : Prop := retv Tryd.prog s Tryd.f38.results.toList (fun vs => K (pack vs) w) w
def s38_p1 (K : Value → World → Prop) (t1 : Value) (w : World) : Prop :=
  K t1 w
def s38_p1_den (K : Value → World → Prop) : (Nat → Value) → World → Prop := denL Tryd.prog [(cd (Tryd.f38.body.getD .skip) [1, 1, 1, 1, 1, 1, 1, 1, 0]), (cd (Tryd.f38.body.getD .skip) [1, 1, 1, 1, 1, 1, 1, 1, 1])] (fun _ _ => False) (fun i => (fun _ _ => False)) (s38_R K)
theorem s38_p1_ok (K : Value → World → Prop) (s : Nat → Value) (w : World) (h : s38_p1 K (s 1) w) : Tr (s38_p1_den K s w) :=
  tr_simple (P := Tryd.prog) (codes := [(cd (Tryd.f38.body.getD .skip) [1, 1, 1, 1, 1, 1, 1, 1, 0]), (cd (Tryd.f38.body.getD .skip) [1, 1, 1, 1, 1, 1, 1, 1, 1])]) (N := (fun _ _ => False)) (N' := (fun _ _ => False)) (X := (fun i => (fun _ _ => False))) (X' := (fun i => (fun _ _ => False))) (R := s38_R K) (s := s) (w := w) (p := s38_p1 K (s 1) w) (q := s38_p1_den K s w) tr_id (fun i => tr_id) (by kernel_rfl) (by kernel_rfl) @h
def s38_p2 (K : Value → World → Prop) (B1 : List Value → World → Prop) (t1 t2 t5 : Value) (w : World) : Prop :=
  fd 7 t2 (fun t28 w =>
  ld1 t28 (fun t29 w =>
  lnS t29 (fun t30 w =>
  boI .lss t5 t30 (fun t31 w =>
  ifb t31
  (fd 7 t2 (fun t34 w =>
  ld1 t34 (fun t35 w =>
  ixs 8 t35 t5 (fun t37 w =>
  ldn 8 t37 (fun t38 w =>
  cl Tryd.prog 38 #[t38, t1] (fun t40 w =>
  boI .gtr t40 (.int .i64 65536) (fun t42 w =>
  ifb t42
  (K t40 w)
  (boI .add t5 (.int .i64 1) (fun t33 w =>
  B1 [t40, t2, t33] w) w)) w) w) w) w) w) w)
  (s38_p1 K t1 w)) w) w) w) w
def s38_p2_den (K : Value → World → Prop) (M1 : (Nat → Value) → World → Prop) : (Nat → Value) → World → Prop := denL Tryd.prog [(cd (Tryd.f38.body.getD .skip) [1, 1, 1, 1, 1, 1, 1, 0, 1, 0, 0, 0, 0]), (cd (Tryd.f38.body.getD .skip) [1, 1, 1, 1, 1, 1, 1, 0, 1, 0, 0, 0, 1]), (cd (Tryd.f38.body.getD .skip) [1, 1, 1, 1, 1, 1, 1, 0, 1, 0, 0, 1, 0]), (cd (Tryd.f38.body.getD .skip) [1, 1, 1, 1, 1, 1, 1, 0, 1, 0, 0, 1, 1])] M1 (fun i => (bif Nat.beq i 0 then (s38_p1_den K) else (fun _ _ => False))) (s38_R K)
theorem s38_p2_ok (K : Value → World → Prop) (B1 : List Value → World → Prop) (s : Nat → Value) (w : World) (h : s38_p2 K B1 (s 1) (s 2) (s 5) w) : Tr (s38_p2_den K (fun s w => B1 [s 1, s 2, s 5] w) s w) :=
  tr_simple (P := Tryd.prog) (codes := [(cd (Tryd.f38.body.getD .skip) [1, 1, 1, 1, 1, 1, 1, 0, 1, 0, 0, 0, 0]), (cd (Tryd.f38.body.getD .skip) [1, 1, 1, 1, 1, 1, 1, 0, 1, 0, 0, 0, 1]), (cd (Tryd.f38.body.getD .skip) [1, 1, 1, 1, 1, 1, 1, 0, 1, 0, 0, 1, 0]), (cd (Tryd.f38.body.getD .skip) [1, 1, 1, 1, 1, 1, 1, 0, 1, 0, 0, 1, 1])]) (N := (fun s w => B1 [s 1, s 2, s 5] w)) (N' := (fun s w => B1 [s 1, s 2, s 5] w)) (X := (fun i => (bif Nat.beq i 0 then (fun s w => s38_p1 K (s 1) w) else (fun _ _ => False)))) (X' := (fun i => (bif Nat.beq i 0 then (s38_p1_den K) else (fun _ _ => False)))) (R := s38_R K) (s := s) (w := w) (p := s38_p2 K B1 (s 1) (s 2) (s 5) w) (q := s38_p2_den K (fun s w => B1 [s 1, s 2, s 5] w) s w) tr_id (fun i => (tr_bif (fun s w h => s38_p1_ok K s w @h) tr_id)) (by kernel_rfl) (by kernel_rfl) @h
def s38_p3_F (K : Value → World → Prop) (B1 : List Value → World → Prop) (l : List Value) (w : World) : Prop :=
  match l with
  | [t1, t2, t5] => s38_p2 K B1 t1 t2 t5 w
  | _ => False
theorem s38_p3_Fe {K : Value → World → Prop} {B1 : List Value → World → Prop} {t1 t2 t5 : Value} {w : World} : s38_p3_F K B1 [t1, t2, t5] w = s38_p2 K B1 t1 t2 t5 w := by kernel_rfl
def s38_p3 (K : Value → World → Prop) (t1 t2 t5 : Value) (w : World) : Prop :=
  LoopL (s38_p3_F K) [t1, t2, t5] w
def s38_p3_den (K : Value → World → Prop) : (Nat → Value) → World → Prop := fun s w => LoopP (fun M1 s w => s38_p2_den K M1 s w) s w
theorem s38_p3_ok (K : Value → World → Prop) (s : Nat → Value) (w : World) (h : s38_p3 K (s 1) (s 2) (s 5) w) : Tr (s38_p3_den K s w) :=
  tr_loop (G := fun N' s w => s38_p2_den K N' s w) (F := s38_p3_F K) (sel := fun s => [s 1, s 2, s 5]) (s := s) (w := w) (p := s38_p3 K (s 1) (s 2) (s 5) w) (q := s38_p3_den K s w) (fun B s w h => s38_p2_ok K B s w @h) (by kernel_rfl) (by kernel_rfl) @h
def s38_p4 (K : Value → World → Prop) (t0 t1 : Value) (w : World) : Prop :=
  nw 52 (t0).cells (fun t2 w =>
  boI .add t1 (.int .i64 1) (fun t7 w =>
  boI .gtr t7 (.int .i64 65536) (fun t9 w =>
  ifb t9
  (K t7 w)
  (fd 5 t2 (fun t12 w =>
  ld1 t12 (fun t13 w =>
  lnT t13 (fun t14 w =>
  boI .add t7 t14 (fun t15 w =>
  boI .gtr t15 (.int .i64 65536) (fun t17 w =>
  ifb t17
  (K t15 w)
  (fd 7 t2 (fun t20 w =>
  ld1 t20 (fun t21 w =>
  lnS t21 (fun t22 w =>
  boI .add t15 t22 (fun t23 w =>
  boI .gtr t23 (.int .i64 65536) (fun t25 w =>
  ifb t25
  (K t23 w)
  (s38_p3 K t23 t2 (.int .i64 0) w)) w) w) w) w) w)) w) w) w) w) w)) w) w) w
def s38_p4_den (K : Value → World → Prop) : (Nat → Value) → World → Prop := denL Tryd.prog [(cd (Tryd.f38.body.getD .skip) [0]), (cd (Tryd.f38.body.getD .skip) [1, 0]), (cd (Tryd.f38.body.getD .skip) [1, 1, 0, 0]), (cd (Tryd.f38.body.getD .skip) [1, 1, 0, 1]), (cd (Tryd.f38.body.getD .skip) [1, 1, 1, 0]), (cd (Tryd.f38.body.getD .skip) [1, 1, 1, 1, 0, 0]), (cd (Tryd.f38.body.getD .skip) [1, 1, 1, 1, 0, 1]), (cd (Tryd.f38.body.getD .skip) [1, 1, 1, 1, 1, 0]), (cd (Tryd.f38.body.getD .skip) [1, 1, 1, 1, 1, 1, 0, 0]), (cd (Tryd.f38.body.getD .skip) [1, 1, 1, 1, 1, 1, 0, 1]), (cd (Tryd.f38.body.getD .skip) [1, 1, 1, 1, 1, 1, 1, 0, 0])] (s38_p3_den K) (fun i => (fun _ _ => False)) (s38_R K)
theorem s38_p4_ok (K : Value → World → Prop) (s : Nat → Value) (w : World) (h : s38_p4 K (s 0) (s 1) w) : Tr (s38_p4_den K s w) :=
  tr_simple (P := Tryd.prog) (codes := [(cd (Tryd.f38.body.getD .skip) [0]), (cd (Tryd.f38.body.getD .skip) [1, 0]), (cd (Tryd.f38.body.getD .skip) [1, 1, 0, 0]), (cd (Tryd.f38.body.getD .skip) [1, 1, 0, 1]), (cd (Tryd.f38.body.getD .skip) [1, 1, 1, 0]), (cd (Tryd.f38.body.getD .skip) [1, 1, 1, 1, 0, 0]), (cd (Tryd.f38.body.getD .skip) [1, 1, 1, 1, 0, 1]), (cd (Tryd.f38.body.getD .skip) [1, 1, 1, 1, 1, 0]), (cd (Tryd.f38.body.getD .skip) [1, 1, 1, 1, 1, 1, 0, 0]), (cd (Tryd.f38.body.getD .skip) [1, 1, 1, 1, 1, 1, 0, 1]), (cd (Tryd.f38.body.getD .skip) [1, 1, 1, 1, 1, 1, 1, 0, 0])]) (N := (fun s w => s38_p3 K (s 1) (s 2) (s 5) w)) (N' := (s38_p3_den K)) (X := (fun i => (fun _ _ => False))) (X' := (fun i => (fun _ _ => False))) (R := s38_R K) (s := s) (w := w) (p := s38_p4 K (s 0) (s 1) w) (q := s38_p4_den K s w) (fun s w h => s38_p3_ok K s w @h) (fun i => tr_id) (by kernel_rfl) (by kernel_rfl) @h
/-- the call, from the text -/
theorem c38 (t0 t1 : Value) {K : Value → World → Prop} {w : World} (h : s38_p4 K t0 t1 w) : cl Tryd.prog 38 #[t0, t1] K w :=
  calls_of_tr (c := (Tryd.f38.body.getD .skip)) (fn := Tryd.f38) (q := s38_p4_den K (st0 #[t0, t1]) w) Tryd.func38 (by kernel_rfl) (by kernel_rfl) (Nat.le_of_ble_eq_true (by kernel_rfl)) (by kernel_rfl) (by kernel_rfl) (s38_p4_ok K (st0 #[t0, t1]) w @h)

/-! ### function 49 : e2e.record.appendLoc -/
def s49_R (K : Value → World → Prop) (s : Nat → Value) (w : World) : Prop := retv Tryd.prog s Tryd.f49.results.toList (fun vs => K (pack vs) w) w
def s49_p1 (K : Value → World → Prop) (t0 t1 : Value) (w : World) : Prop :=
  nw 30 (t1).cells (fun t3 w =>
  fd 0 t3 (fun t6 w =>
  ld1 t6 (fun t7 w =>
  cl Tryd.prog 75 #[t0, t7] (fun t8 w =>
  fd 1 t3 (fun t10 w =>
  ld1 t10 (fun t11 w =>
  cl Tryd.prog 75 #[t8, t11] (fun t12 w =>
  fd 2 t3 (fun t14 w =>
  ld1 t14 (fun t15 w =>
  cl Tryd.prog 75 #[t12, t15] (fun t16 w =>
  fd 3 t3 (fun t18 w =>
  ld1 t18 (fun t19 w =>
  cl Tryd.prog 75 #[t16, t19] (fun t20 w =>
  K t20 w) w) w) w) w) w) w) w) w) w) w) w) w) w
def s49_p1_den (K : Value → World → Prop) : (Nat → Value) → World → Prop := denL Tryd.prog [(cd (Tryd.f49.body.getD .skip) [0]), (cd (Tryd.f49.body.getD .skip) [1, 0]), (cd (Tryd.f49.body.getD .skip) [1, 1, 0]), (cd (Tryd.f49.body.getD .skip) [1, 1, 1, 0]), (cd (Tryd.f49.body.getD .skip) [1, 1, 1, 1, 0]), (cd (Tryd.f49.body.getD .skip) [1, 1, 1, 1, 1])] (fun _ _ => False) (fun i => (fun _ _ => False)) (s49_R K)
theorem s49_p1_ok (K : Value → World → Prop) (s : Nat → Value) (w : World) (h : s49_p1 K (s 0) (s 1) w) : Tr (s49_p1_den K s w) :=
  tr_simple (P := Tryd.prog) (codes := [(cd (Tryd.f49.body.getD .skip) [0]), (cd (Tryd.f49.body.getD .skip) [1, 0]), (cd (Tryd.f49.body.getD .skip) [1, 1, 0]), (cd (Tryd.f49.body.getD .skip) [1, 1, 1, 0]), (cd (Tryd.f49.body.getD .skip) [1, 1, 1, 1, 0]), (cd (Tryd.f49.body.getD .skip) [1, 1, 1, 1, 1])]) (N := (fun _ _ => False)) (N' := (fun _ _ => False)) (X := (fun i => (fun _ _ => False))) (X' := (fun i => (fun _ _ => False))) (R := s49_R K) (s := s) (w := w) (p := s49_p1 K (s 0) (s 1) w) (q := s49_p1_den K s w) tr_id (fun i => tr_id) (by kernel_rfl) (by kernel_rfl) @h
/-- the call, from the text -/
theorem c49 (t0 t1 : Value) {K : Value → World → Prop} {w : World} (h : s49_p1 K t0 t1 w) : cl Tryd.prog 49 #[t0, t1] K w :=
  calls_of_tr (c := (Tryd.f49.body.getD .skip)) (fn := Tryd.f49) (q := s49_p1_den K (st0 #[t0, t1]) w) Tryd.func49 (by kernel_rfl) (by kernel_rfl) (Nat.le_of_ble_eq_true (by kernel_rfl)) (by kernel_rfl) (by kernel_rfl) (s49_p1_ok K (st0 #[t0, t1]) w @h)

/-! ### function 50 : encoding.binary.AppendUvarint -/
def s50_R (K : Value → World → Prop) (s : Nat → Value) (w : World) : Prop := retv Tryd.prog s Tryd.f50.results.toList (fun vs => K (pack vs) w) w
def s50_p1 (K : Value → World → Prop) (t0 t1 : Value) (w : World) : Prop :=
  cvi .u8 t1 (fun t17 w =>
  bsq 5 [(.int .u8 0)] 1 [(some (0, 1), t17)] (fun t18 w =>
  apq 5 [(.int .u8 0)] 1 t0 t18 (fun t19 w =>
  K t19 w) w) w) w
def s50_p1_den (K : Value → World → Prop) : (Nat → Value) → World → Prop := denL Tryd.prog [(cd (Tryd.f50.body.getD .skip) [1, 1, 0]), (cd (Tryd.f50.body.getD .skip) [1, 1, 1])] (fun _ _ => False) (fun i => (fun _ _ => False)) (s50_R K)
theorem s50_p1_ok (K : Value → World → Prop) (s : Nat → Value) (w : World) (h : s50_p1 K (s 0) (s 1) w) : Tr (s50_p1_den K s w) :=
  tr_simple (P := Tryd.prog) (codes := [(cd (Tryd.f50.body.getD .skip) [1, 1, 0]), (cd (Tryd.f50.body.getD .skip) [1, 1, 1])]) (N := (fun _ _ => False)) (N' := (fun _ _ => False)) (X := (fun i => (fun _ _ => False))) (X' := (fun i => (fun _ _ => False))) (R := s50_R K) (s := s) (w := w) (p := s50_p1 K (s 0) (s 1) w) (q := s50_p1_den K s w) tr_id (fun i => tr_id) (by kernel_rfl) (by kernel_rfl) @h
def s50_p2 (K : Value → World → Prop) (B1 : List Value → World → Prop) (t0 t1 : Value) (w : World) : Prop :=
  boI .geq t1 (.int .u64 128) (fun t6 w =>
  ifb t6
  (cvi .u8 t1 (fun t9 w =>
  boI .or t9 (.int .u8 128) (fun t10 w =>
  bsq 5 [(.int .u8 0)] 1 [(some (0, 1), t10)] (fun t11 w =>
  apq 5 [(.int .u8 0)] 1 t0 t11 (fun t12 w =>
  boI .shr t1 (.int .u64 7) (fun t14 w =>
  B1 [t12, t14] w) w) w) w) w) w)
  (s50_p1 K t0 t1 w)) w
def s50_p2_den (K : Value → World → Prop) (M1 : (Nat → Value) → World → Prop) : (Nat → Value) → World → Prop := denL Tryd.prog [(cd (Tryd.f50.body.getD .skip) [1, 0, 0, 0, 0, 0]), (cd (Tryd.f50.body.getD .skip) [1, 0, 0, 0, 0, 1]), (cd (Tryd.f50.body.getD .skip) [1, 0, 0, 0, 1])] M1 (fun i => (bif Nat.beq i 0 then (s50_p1_den K) else (fun _ _ => False))) (s50_R K)
theorem s50_p2_ok (K : Value → World → Prop) (B1 : List Value → World → Prop) (s : Nat → Value) (w : World) (h : s50_p2 K B1 (s 0) (s 1) w) : Tr (s50_p2_den K (fun s w => B1 [s 0, s 1] w) s w) :=
  tr_simple (P := Tryd.prog) (codes := [(cd (Tryd.f50.body.getD .skip) [1, 0, 0, 0, 0, 0]), (cd (Tryd.f50.body.getD .skip) [1, 0, 0, 0, 0, 1]), (cd (Tryd.f50.body.getD .skip) [1, 0, 0, 0, 1])]) (N := (fun s w => B1 [s 0, s 1] w)) (N' := (fun s w => B1 [s 0, s 1] w)) (X := (fun i => (bif Nat.beq i 0 then (fun s w => s50_p1 K (s 0) (s 1) w) else (fun _ _ => False)))) (X' := (fun i => (bif Nat.beq i 0 then (s50_p1_den K) else (fun _ _ => False)))) (R := s50_R K) (s := s) (w := w) (p := s50_p2 K B1 (s 0) (s 1) w) (q := s50_p2_den K (fun s w => B1 [s 0, s 1] w) s w) tr_id (fun i => (tr_bif (fun s w h => s50_p1_ok K s w @h) tr_id)) (by kernel_rfl) (by kernel_rfl) @h
def s50_p3_F (K : Value → World → Prop) (B1 : List Value → World → Prop) (l : List Value) (w : World) : Prop :=
  match l with
  | [t0, t1] => s50_p2 K B1 t0 t1 w
  | _ => False
theorem s50_p3_Fe {K : Value → World → Prop} {B1 : List Value → World → Prop} {t0 t1 : Value} {w : World} : s50_p3_F K B1 [t0, t1] w = s50_p2 K B1 t0 t1 w := by kernel_rfl
def s50_p3 (K : Value → World → Prop) (t0 t1 : Value) (w : World) : Prop :=
  LoopL (s50_p3_F K) [t0, t1] w
def s50_p3_den (K : Value → World → Prop) : (Nat → Value) → World → Prop := fun s w => LoopP (fun M1 s w => s50_p2_den K M1 s w) s w
theorem s50_p3_ok (K : Value → World → Prop) (s : Nat → Value) (w : World) (h : s50_p3 K (s 0) (s 1) w) : Tr (s50_p3_den K s w) :=
  tr_loop (G := fun N' s w => s50_p2_den K N' s w) (F := s50_p3_F K) (sel := fun s => [s 0, s 1]) (s := s) (w := w) (p := s50_p3 K (s 0) (s 1) w) (q := s50_p3_den K s w) (fun B s w h => s50_p2_ok K B s w @h) (by kernel_rfl) (by kernel_rfl) @h
def s50_p4 (K : Value → World → Prop) (t0 t1 : Value) (w : World) : Prop :=
  s50_p3 K t0 t1 w
def s50_p4_den (K : Value → World → Prop) : (Nat → Value) → World → Prop := denL Tryd.prog [(cd (Tryd.f50.body.getD .skip) [0])] (s50_p3_den K) (fun i => (fun _ _ => False)) (s50_R K)
theorem s50_p4_ok (K : Value → World → Prop) (s : Nat → Value) (w : World) (h : s50_p4 K (s 0) (s 1) w) : Tr (s50_p4_den K s w) :=
  tr_simple (P := Tryd.prog) (codes := [(cd (Tryd.f50.body.getD .skip) [0])]) (N := (fun s w => s50_p3 K (s 0) (s 1) w)) (N' := (s50_p3_den K)) (X := (fun i => (fun _ _ => False))) (X' := (fun i => (fun _ _ => False))) (R := s50_R K) (s := s) (w := w) (p := s50_p4 K (s 0) (s 1) w) (q := s50_p4_den K s w) (fun s w h => s50_p3_ok K s w @h) (fun i => tr_id) (by kernel_rfl) (by kernel_rfl) @h
/-- the call, from the text -/
theorem c50 (t0 t1 : Value) {K : Value → World → Prop} {w : World} (h : s50_p4 K t0 t1 w) : cl Tryd.prog 50 #[t0, t1] K w :=
  calls_of_tr (c := (Tryd.f50.body.getD .skip)) (fn := Tryd.f50) (q := s50_p4_den K (st0 #[t0, t1]) w) Tryd.func50 (by kernel_rfl) (by kernel_rfl) (Nat.le_of_ble_eq_true (by kernel_rfl)) (by kernel_rfl) (by kernel_rfl) (s50_p4_ok K (st0 #[t0, t1]) w @h)

/-! ### function 54 : (*e2e.record.decoder).byte -/
def s54_R (K : Value → World → Prop) (s : Nat → Value) (w : World) : Prop := retv Tryd.prog s Tryd.f54.results.toList (fun vs => K (pack vs) w) w
def s54_p1 (K : Value → World → Prop) (t0 : Value) (w : World) : Prop :=
  nck t0 (fun t5 w =>
  fd 0 t5 (fun t6 w =>
  ld1 t6 (fun t7 w =>
  lnS t7 (fun t8 w =>
  boI .eql t8 (.int .i64 0) (fun t9 w =>
  ifb t9
  (nck t0 (fun t11 w =>
  fd 1 t11 (fun t12 w =>
  st1 t12 (.bool true) (fun w =>
  K (.int .u8 0) w) w) w) w)
  (nck t0 (fun t14 w =>
  fd 0 t14 (fun t15 w =>
  ld1 t15 (fun t16 w =>
  ixs 1 t16 (.int .i64 0) (fun t17 w =>
  ld1 t17 (fun t18 w =>
  nck t0 (fun t21 w =>
  fd 0 t21 (fun t22 w =>
  ld1 t22 (fun t23 w =>
  sls 1 t23 (some (.int .i64 1)) none (fun t24 w =>
  nck t0 (fun t25 w =>
  fd 0 t25 (fun t26 w =>
  st1 t26 t24 (fun w =>
  K t18 w) w) w) w) w) w) w) w) w) w) w) w) w)) w) w) w) w) w
def s54_p1_den (K : Value → World → Prop) : (Nat → Value) → World → Prop := denL Tryd.prog [(cd (Tryd.f54.body.getD .skip) [0]), (cd (Tryd.f54.body.getD .skip) [1, 0, 0]), (cd (Tryd.f54.body.getD .skip) [1, 0, 1]), (cd (Tryd.f54.body.getD .skip) [1, 1, 0]), (cd (Tryd.f54.body.getD .skip) [1, 1, 1, 0]), (cd (Tryd.f54.body.getD .skip) [1, 1, 1, 1, 0]), (cd (Tryd.f54.body.getD .skip) [1, 1, 1, 1, 1])] (fun _ _ => False) (fun i => (fun _ _ => False)) (s54_R K)
theorem s54_p1_ok (K : Value → World → Prop) (s : Nat → Value) (w : World) (h : s54_p1 K (s 0) w) : Tr (s54_p1_den K s w) :=
  tr_simple (P := Tryd.prog) (codes := [(cd (Tryd.f54.body.getD .skip) [0]), (cd (Tryd.f54.body.getD .skip) [1, 0, 0]), (cd (Tryd.f54.body.getD .skip) [1, 0, 1]), (cd (Tryd.f54.body.getD .skip) [1, 1, 0]), (cd (Tryd.f54.body.getD .skip) [1, 1, 1, 0]), (cd (Tryd.f54.body.getD .skip) [1, 1, 1, 1, 0]), (cd (Tryd.f54.body.getD .skip) [1, 1, 1, 1, 1])]) (N := (fun _ _ => False)) (N' := (fun _ _ => False)) (X := (fun i => (fun _ _ => False))) (X' := (fun i => (fun _ _ => False))) (R := s54_R K) (s := s) (w := w) (p := s54_p1 K (s 0) w) (q := s54_p1_den K s w) tr_id (fun i => tr_id) (by kernel_rfl) (by kernel_rfl) @h
/-- the call, from the text -/
theorem c54 (t0 : Value) {K : Value → World → Prop} {w : World} (h : s54_p1 K t0 w) : cl Tryd.prog 54 #[t0] K w :=
  calls_of_tr (c := (Tryd.f54.body.getD .skip)) (fn := Tryd.f54) (q := s54_p1_den K (st0 #[t0]) w) Tryd.func54 (by kernel_rfl) (by kernel_rfl) (Nat.le_of_ble_eq_true (by kernel_rfl)) (by kernel_rfl) (by kernel_rfl) (s54_p1_ok K (st0 #[t0]) w @h)

/-! ### function 55 : (*e2e.record.decoder).loc -/
def s55_R (K : Value → World → Prop) (s : Nat → Value) (w : World) : Prop := retv Tryd.prog s Tryd.f55.results.toList (fun vs => K (pack vs) w) w
def s55_p1 (K : Value → World → Prop) (t0 : Value) (w : World) : Prop :=
  nw 30 #[(.int .i64 0), (.int .i64 0), (.int .i64 0), (.int .i64 0)] (fun t2 w =>
  cl Tryd.prog 76 #[t0] (fun t4 w =>
  cl Tryd.prog 76 #[t0] (fun t6 w =>
  cl Tryd.prog 76 #[t0] (fun t8 w =>
  cl Tryd.prog 76 #[t0] (fun t10 w =>
  bdq [(.int .i64 0), (.int .i64 0), (.int .i64 0), (.int .i64 0)] [(some (0, 1), t4), (some (1, 1), t6), (some (2, 1), t8), (some (3, 1), t10)] (fun t11 w =>
  stn 4 t2 t11 (fun w =>
  ldn 4 t2 (fun r0 _ =>
  K r0 w) w) w) w) w) w) w) w) w
def s55_p1_den (K : Value → World → Prop) : (Nat → Value) → World → Prop := denL Tryd.prog [(cd (Tryd.f55.body.getD .skip) [0]), (cd (Tryd.f55.body.getD .skip) [1, 0]), (cd (Tryd.f55.body.getD .skip) [1, 1])] (fun _ _ => False) (fun i => (fun _ _ => False)) (s55_R K)
theorem s55_p1_ok (K : Value → World → Prop) (s : Nat → Value) (w : World) (h : s55_p1 K (s 0) w) : Tr (s55_p1_den K s w) :=
  tr_simple (P := Tryd.prog) (codes := [(cd (Tryd.f55.body.getD .skip) [0]), (cd (Tryd.f55.body.getD .skip) [1, 0]), (cd (Tryd.f55.body.getD .skip) [1, 1])]) (N := (fun _ _ => False)) (N' := (fun _ _ => False)) (X := (fun i => (fun _ _ => False))) (X' := (fun i => (fun _ _ => False))) (R := s55_R K) (s := s) (w := w) (p := s55_p1 K (s 0) w) (q := s55_p1_den K s w) tr_id (fun i => tr_id) (by kernel_rfl) (by kernel_rfl) @h
/-- the call, from the text -/
theorem c55 (t0 : Value) {K : Value → World → Prop} {w : World} (h : s55_p1 K t0 w) : cl Tryd.prog 55 #[t0] K w :=
  calls_of_tr (c := (Tryd.f55.body.getD .skip)) (fn := Tryd.f55) (q := s55_p1_den K (st0 #[t0]) w) Tryd.func55 (by kernel_rfl) (by kernel_rfl) (Nat.le_of_ble_eq_true (by kernel_rfl)) (by kernel_rfl) (by kernel_rfl) (s55_p1_ok K (st0 #[t0]) w @h)

/-! ### function 75 : encoding.binary.AppendVarint -/
def s75_R (K : Value → World → Prop) (s : Nat → Value) (w : World) : Prop := retv Tryd.prog s Tryd.f75.results.toList (fun vs => K (pack vs) w) w
def s75_p1 (K : Value → World → Prop) (t0 t5 : Value) (w : World) : Prop :=
  cl Tryd.prog 50 #[t0, t5] (fun t15 w =>
  K t15 w) w
def s75_p1_den (K : Value → World → Prop) : (Nat → Value) → World → Prop := denL Tryd.prog [(cd (Tryd.f75.body.getD .skip) [1, 1, 1, 0]), (cd (Tryd.f75.body.getD .skip) [1, 1, 1, 1])] (fun _ _ => False) (fun i => (fun _ _ => False)) (s75_R K)
theorem s75_p1_ok (K : Value → World → Prop) (s : Nat → Value) (w : World) (h : s75_p1 K (s 0) (s 5) w) : Tr (s75_p1_den K s w) :=
  tr_simple (P := Tryd.prog) (codes := [(cd (Tryd.f75.body.getD .skip) [1, 1, 1, 0]), (cd (Tryd.f75.body.getD .skip) [1, 1, 1, 1])]) (N := (fun _ _ => False)) (N' := (fun _ _ => False)) (X := (fun i => (fun _ _ => False))) (X' := (fun i => (fun _ _ => False))) (R := s75_R K) (s := s) (w := w) (p := s75_p1 K (s 0) (s 5) w) (q := s75_p1_den K s w) tr_id (fun i => tr_id) (by kernel_rfl) (by kernel_rfl) @h
def s75_p2 (K : Value → World → Prop) (t0 t1 : Value) (w : World) : Prop :=
  cvi .u64 t1 (fun t7 w =>
  boI .shl t7 (.int .u64 1) (fun t8 w =>
  boI .lss t1 (.int .i64 0) (fun t10 w =>
  ifb t10
  (un .xor t8 (fun t12 w =>
  s75_p1 K t0 t12 w) w)
  (s75_p1 K t0 t8 w)) w) w) w
def s75_p2_den (K : Value → World → Prop) : (Nat → Value) → World → Prop := denL Tryd.prog [(cd (Tryd.f75.body.getD .skip) [0]), (cd (Tryd.f75.body.getD .skip) [1, 0]), (cd (Tryd.f75.body.getD .skip) [1, 1, 0, 0]), (cd (Tryd.f75.body.getD .skip) [1, 1, 0, 1])] (s75_p1_den K) (fun i => (fun _ _ => False)) (s75_R K)
theorem s75_p2_ok (K : Value → World → Prop) (s : Nat → Value) (w : World) (h : s75_p2 K (s 0) (s 1) w) : Tr (s75_p2_den K s w) :=
  tr_simple (P := Tryd.prog) (codes := [(cd (Tryd.f75.body.getD .skip) [0]), (cd (Tryd.f75.body.getD .skip) [1, 0]), (cd (Tryd.f75.body.getD .skip) [1, 1, 0, 0]), (cd (Tryd.f75.body.getD .skip) [1, 1, 0, 1])]) (N := (fun s w => s75_p1 K (s 0) (s 5) w)) (N' := (s75_p1_den K)) (X := (fun i => (fun _ _ => False))) (X' := (fun i => (fun _ _ => False))) (R := s75_R K) (s := s) (w := w) (p := s75_p2 K (s 0) (s 1) w) (q := s75_p2_den K s w) (fun s w h => s75_p1_ok K s w @h) (fun i => tr_id) (by kernel_rfl) (by kernel_rfl) @h
/-- the call, from the text -/
theorem c75 (t0 t1 : Value) {K : Value → World → Prop} {w : World} (h : s75_p2 K t0 t1 w) : cl Tryd.prog 75 #[t0, t1] K w :=
  calls_of_tr (c := (Tryd.f75.body.getD .skip)) (fn := Tryd.f75) (q := s75_p2_den K (st0 #[t0, t1]) w) Tryd.func75 (by kernel_rfl) (by kernel_rfl) (Nat.le_of_ble_eq_true (by kernel_rfl)) (by kernel_rfl) (by kernel_rfl) (s75_p2_ok K (st0 #[t0, t1]) w @h)

/-! ### function 76 : (*e2e.record.decoder).varint -/
def s76_R (K : Value → World → Prop) (s : Nat → Value) (w : World) : Prop := retv Tryd.prog s Tryd.f76.results.toList (fun vs => K (pack vs) w) w
def s76_p1 (K : Value → World → Prop) (t0 : Value) (w : World) : Prop :=
  cl Tryd.prog 77 #[t0] (fun t5 w =>
  boI .shr t5 (.int .u64 1) (fun t7 w =>
  cvi .i64 t7 (fun t8 w =>
  boI .and t5 (.int .u64 1) (fun t10 w =>
  cvi .i64 t10 (fun t11 w =>
  un .neg t11 (fun t12 w =>
  boI .xor t8 t12 (fun t13 w =>
  K t13 w) w) w) w) w) w) w) w
def s76_p1_den (K : Value → World → Prop) : (Nat → Value) → World → Prop := denL Tryd.prog [(cd (Tryd.f76.body.getD .skip) [0]), (cd (Tryd.f76.body.getD .skip) [1, 0]), (cd (Tryd.f76.body.getD .skip) [1, 1, 0]), (cd (Tryd.f76.body.getD .skip) [1, 1, 1])] (fun _ _ => False) (fun i => (fun _ _ => False)) (s76_R K)
theorem s76_p1_ok (K : Value → World → Prop) (s : Nat → Value) (w : World) (h : s76_p1 K (s 0) w) : Tr (s76_p1_den K s w) :=
  tr_simple (P := Tryd.prog) (codes := [(cd (Tryd.f76.body.getD .skip) [0]), (cd (Tryd.f76.body.getD .skip) [1, 0]), (cd (Tryd.f76.body.getD .skip) [1, 1, 0]), (cd (Tryd.f76.body.getD .skip) [1, 1, 1])]) (N := (fun _ _ => False)) (N' := (fun _ _ => False)) (X := (fun i => (fun _ _ => False))) (X' := (fun i => (fun _ _ => False))) (R := s76_R K) (s := s) (w := w) (p := s76_p1 K (s 0) w) (q := s76_p1_den K s w) tr_id (fun i => tr_id) (by kernel_rfl) (by kernel_rfl) @h
/-- the call, from the text -/
theorem c76 (t0 : Value) {K : Value → World → Prop} {w : World} (h : s76_p1 K t0 w) : cl Tryd.prog 76 #[t0] K w :=
  calls_of_tr (c := (Tryd.f76.body.getD .skip)) (fn := Tryd.f76) (q := s76_p1_den K (st0 #[t0]) w) Tryd.func76 (by kernel_rfl) (by kernel_rfl) (Nat.le_of_ble_eq_true (by kernel_rfl)) (by kernel_rfl) (by kernel_rfl) (s76_p1_ok K (st0 #[t0]) w @h)

/-! ### function 77 : (*e2e.record.decoder).uvarint -/
def s77_R (K : Value → World → Prop) (s : Nat → Value) (w : World) : Prop := retv Tryd.prog s Tryd.f77.results.toList (fun vs => K (pack vs) w) w
def s77_p1 (K : Value → World → Prop) (t0 : Value) (w : World) : Prop :=
  nck t0 (fun t7 w =>
  fd 0 t7 (fun t8 w =>
  ld1 t8 (fun t9 w =>
  cl Tryd.prog 83 #[t9] (fun t10 w =>
  exq t10 0 (fun t11 w =>
  exq t10 1 (fun t12 w =>
  boI .leq t12 (.int .i64 0) (fun t14 w =>
  gd t14 false (fun K w => K t12 w) (fun t16 w =>
  gd t14 false (boI .gtr t16 (.int .i64 1)) (fun t17 w =>
  gd t14 false (fun K w => K t17 w) (fun t18 w =>
  gd t18 true (fun K w => K t0 w) (fun t19 w =>
  gd t18 true (nck t19) (fun t20 w =>
  gd t18 true (fd 0 t20) (fun t21 w =>
  gd t18 true (ld1 t21) (fun t22 w =>
  gd t18 true (fun K w => K t12 w) (fun t23 w =>
  gd t18 true (boI .sub t23 (.int .i64 1)) (fun t24 w =>
  gd t18 true (ixs 1 t22 t24) (fun t25 w =>
  gd t18 true (ld1 t25) (fun t26 w =>
  gd t18 true (boI .eql t26 (.int .u8 0)) (fun t27 w =>
  gd t14 false (pk t18 t27 (.bool false)) (fun t28 w =>
  pk t14 (.bool true) t28 (fun t29 w =>
  ifb t29
  (nck t0 (fun t32 w =>
  fd 1 t32 (fun t33 w =>
  st1 t33 (.bool true) (fun w =>
  nck t0 (fun t34 w =>
  fd 0 t34 (fun t35 w =>
  st1 t35 (.slice none 0 0) (fun w =>
  K (.int .u64 0) w) w) w) w) w) w) w)
  (nck t0 (fun t38 w =>
  fd 0 t38 (fun t39 w =>
  ld1 t39 (fun t40 w =>
  sls 1 t40 (some t12) none (fun t42 w =>
  nck t0 (fun t43 w =>
  fd 0 t43 (fun t44 w =>
  st1 t44 t42 (fun w =>
  K t11 w) w) w) w) w) w) w) w)) w) w) w) w) w) w) w) w) w) w) w) w) w) w) w) w) w) w) w) w) w
def s77_p1_den (K : Value → World → Prop) : (Nat → Value) → World → Prop := denL Tryd.prog [(cd (Tryd.f77.body.getD .skip) [0]), (cd (Tryd.f77.body.getD .skip) [1, 0]), (cd (Tryd.f77.body.getD .skip) [1, 1, 0, 0]), (cd (Tryd.f77.body.getD .skip) [1, 1, 0, 1]), (cd (Tryd.f77.body.getD .skip) [1, 1, 1, 0]), (cd (Tryd.f77.body.getD .skip) [1, 1, 1, 1, 0]), (cd (Tryd.f77.body.getD .skip) [1, 1, 1, 1, 1])] (fun _ _ => False) (fun i => (fun _ _ => False)) (s77_R K)
theorem s77_p1_ok (K : Value → World → Prop) (s : Nat → Value) (w : World) (h : s77_p1 K (s 0) w) : Tr (s77_p1_den K s w) :=
  tr_simple (P := Tryd.prog) (codes := [(cd (Tryd.f77.body.getD .skip) [0]), (cd (Tryd.f77.body.getD .skip) [1, 0]), (cd (Tryd.f77.body.getD .skip) [1, 1, 0, 0]), (cd (Tryd.f77.body.getD .skip) [1, 1, 0, 1]), (cd (Tryd.f77.body.getD .skip) [1, 1, 1, 0]), (cd (Tryd.f77.body.getD .skip) [1, 1, 1, 1, 0]), (cd (Tryd.f77.body.getD .skip) [1, 1, 1, 1, 1])]) (N := (fun _ _ => False)) (N' := (fun _ _ => False)) (X := (fun i => (fun _ _ => False))) (X' := (fun i => (fun _ _ => False))) (R := s77_R K) (s := s) (w := w) (p := s77_p1 K (s 0) w) (q := s77_p1_den K s w) tr_id (fun i => tr_id) (by kernel_rfl) (by kernel_rfl) @h
/-- the call, from the text -/
theorem c77 (t0 : Value) {K : Value → World → Prop} {w : World} (h : s77_p1 K t0 w) : cl Tryd.prog 77 #[t0] K w :=
  calls_of_tr (c := (Tryd.f77.body.getD .skip)) (fn := Tryd.f77) (q := s77_p1_den K (st0 #[t0]) w) Tryd.func77 (by kernel_rfl) (by kernel_rfl) (Nat.le_of_ble_eq_true (by kernel_rfl)) (by kernel_rfl) (by kernel_rfl) (s77_p1_ok K (st0 #[t0]) w @h)

/-! ### function 83 : encoding.binary.Uvarint -/
def s83_R (K : Value → World → Prop) (s : Nat → Value) (w : World) : Prop := retv Tryd.prog s Tryd.f83.results.toList (fun vs => K (pack vs) w) w
def s83_p1 (K : Value → World → Prop) (w : World) : Prop :=
  K (.tuple #[(.int .u64 0), (.int .i64 0)]) w
def s83_p1_den (K : Value → World → Prop) : (Nat → Value) → World → Prop := denL Tryd.prog [(cd (Tryd.f83.body.getD .skip) [1, 1, 1, 1, 0]), (cd (Tryd.f83.body.getD .skip) [1, 1, 1, 1, 1])] (fun _ _ => False) (fun i => (fun _ _ => False)) (s83_R K)
theorem s83_p1_ok (K : Value → World → Prop) (s : Nat → Value) (w : World) (h : s83_p1 K w) : Tr (s83_p1_den K s w) :=
  tr_simple (P := Tryd.prog) (codes := [(cd (Tryd.f83.body.getD .skip) [1, 1, 1, 1, 0]), (cd (Tryd.f83.body.getD .skip) [1, 1, 1, 1, 1])]) (N := (fun _ _ => False)) (N' := (fun _ _ => False)) (X := (fun i => (fun _ _ => False))) (X' := (fun i => (fun _ _ => False))) (R := s83_R K) (s := s) (w := w) (p := s83_p1 K w) (q := s83_p1_den K s w) tr_id (fun i => tr_id) (by kernel_rfl) (by kernel_rfl) @h
def s83_p2 (K : Value → World → Prop) (B1 : List Value → World → Prop) (t4 t5 t8 t9 t10 : Value) (w : World) : Prop :=
  boI .lss t10 t9 (fun t11 w =>
  ifb t11
  (ixs 1 t8 t10 (fun t13 w =>
  ld1 t13 (fun t14 w =>
  boI .eql t10 (.int .i64 10) (fun t16 w =>
  ifb t16
  (boI .add t10 (.int .i64 1) (fun t18 w =>
  un .neg t18 (fun t19 w =>
  K (.tuple #[(.int .u64 0), t19]) w) w) w)
  (boI .lss t14 (.int .u8 128) (fun t21 w =>
  ifb t21
  (boI .eql t10 (.int .i64 9) (fun t23 w =>
  gd t23 true (fun K w => K t14 w) (fun t25 w =>
  gd t23 true (boI .gtr t25 (.int .u8 1)) (fun t26 w =>
  pk t23 t26 (.bool false) (fun t27 w =>
  ifb t27
  (boI .add t10 (.int .i64 1) (fun t29 w =>
  un .neg t29 (fun t30 w =>
  K (.tuple #[(.int .u64 0), t30]) w) w) w)
  (cvi .u64 t14 (fun t33 w =>
  boI .shl t33 t5 (fun t35 w =>
  boI .or t4 t35 (fun t36 w =>
  boI .add t10 (.int .i64 1) (fun t38 w =>
  K (.tuple #[t36, t38]) w) w) w) w) w)) w) w) w) w)
  (boI .and t14 (.int .u8 127) (fun t41 w =>
  cvi .u64 t41 (fun t42 w =>
  boI .shl t42 t5 (fun t44 w =>
  boI .or t4 t44 (fun t45 w =>
  boI .add t5 (.int .u64 7) (fun t47 w =>
  boI .add t10 (.int .i64 1) (fun t48 w =>
  B1 [t45, t47, t8, t9, t48] w) w) w) w) w) w) w)) w)) w) w) w)
  (s83_p1 K w)) w
def s83_p2_den (K : Value → World → Prop) (M1 : (Nat → Value) → World → Prop) : (Nat → Value) → World → Prop := denL Tryd.prog [(cd (Tryd.f83.body.getD .skip) [1, 1, 1, 0, 1, 0, 0, 0]), (cd (Tryd.f83.body.getD .skip) [1, 1, 1, 0, 1, 0, 0, 1, 0]), (cd (Tryd.f83.body.getD .skip) [1, 1, 1, 0, 1, 0, 0, 1, 1, 0]), (cd (Tryd.f83.body.getD .skip) [1, 1, 1, 0, 1, 0, 0, 1, 1, 1])] M1 (fun i => (bif Nat.beq i 0 then (s83_p1_den K) else (fun _ _ => False))) (s83_R K)
theorem s83_p2_ok (K : Value → World → Prop) (B1 : List Value → World → Prop) (s : Nat → Value) (w : World) (h : s83_p2 K B1 (s 4) (s 5) (s 8) (s 9) (s 10) w) : Tr (s83_p2_den K (fun s w => B1 [s 4, s 5, s 8, s 9, s 10] w) s w) :=
  tr_simple (P := Tryd.prog) (codes := [(cd (Tryd.f83.body.getD .skip) [1, 1, 1, 0, 1, 0, 0, 0]), (cd (Tryd.f83.body.getD .skip) [1, 1, 1, 0, 1, 0, 0, 1, 0]), (cd (Tryd.f83.body.getD .skip) [1, 1, 1, 0, 1, 0, 0, 1, 1, 0]), (cd (Tryd.f83.body.getD .skip) [1, 1, 1, 0, 1, 0, 0, 1, 1, 1])]) (N := (fun s w => B1 [s 4, s 5, s 8, s 9, s 10] w)) (N' := (fun s w => B1 [s 4, s 5, s 8, s 9, s 10] w)) (X := (fun i => (bif Nat.beq i 0 then (fun s w => s83_p1 K w) else (fun _ _ => False)))) (X' := (fun i => (bif Nat.beq i 0 then (s83_p1_den K) else (fun _ _ => False)))) (R := s83_R K) (s := s) (w := w) (p := s83_p2 K B1 (s 4) (s 5) (s 8) (s 9) (s 10) w) (q := s83_p2_den K (fun s w => B1 [s 4, s 5, s 8, s 9, s 10] w) s w) tr_id (fun i => (tr_bif (fun s w h => s83_p1_ok K s w @h) tr_id)) (by kernel_rfl) (by kernel_rfl) @h
def s83_p3_F (K : Value → World → Prop) (B1 : List Value → World → Prop) (l : List Value) (w : World) : Prop :=
  match l with
  | [t4, t5, t8, t9, t10] => s83_p2 K B1 t4 t5 t8 t9 t10 w
  | _ => False
theorem s83_p3_Fe {K : Value → World → Prop} {B1 : List Value → World → Prop} {t4 t5 t8 t9 t10 : Value} {w : World} : s83_p3_F K B1 [t4, t5, t8, t9, t10] w = s83_p2 K B1 t4 t5 t8 t9 t10 w := by kernel_rfl
def s83_p3 (K : Value → World → Prop) (t4 t5 t8 t9 t10 : Value) (w : World) : Prop :=
  LoopL (s83_p3_F K) [t4, t5, t8, t9, t10] w
def s83_p3_den (K : Value → World → Prop) : (Nat → Value) → World → Prop := fun s w => LoopP (fun M1 s w => s83_p2_den K M1 s w) s w
theorem s83_p3_ok (K : Value → World → Prop) (s : Nat → Value) (w : World) (h : s83_p3 K (s 4) (s 5) (s 8) (s 9) (s 10) w) : Tr (s83_p3_den K s w) :=
  tr_loop (G := fun N' s w => s83_p2_den K N' s w) (F := s83_p3_F K) (sel := fun s => [s 4, s 5, s 8, s 9, s 10]) (s := s) (w := w) (p := s83_p3 K (s 4) (s 5) (s 8) (s 9) (s 10) w) (q := s83_p3_den K s w) (fun B s w h => s83_p2_ok K B s w @h) (by kernel_rfl) (by kernel_rfl) @h
def s83_p4 (K : Value → World → Prop) (t0 : Value) (w : World) : Prop :=
  lnS t0 (fun t9 w =>
  s83_p3 K (.int .u64 0) (.int .u64 0) t0 t9 (.int .i64 0) w) w
def s83_p4_den (K : Value → World → Prop) : (Nat → Value) → World → Prop := denL Tryd.prog [(cd (Tryd.f83.body.getD .skip) [0]), (cd (Tryd.f83.body.getD .skip) [1, 0]), (cd (Tryd.f83.body.getD .skip) [1, 1, 0]), (cd (Tryd.f83.body.getD .skip) [1, 1, 1, 0, 0])] (s83_p3_den K) (fun i => (fun _ _ => False)) (s83_R K)
theorem s83_p4_ok (K : Value → World → Prop) (s : Nat → Value) (w : World) (h : s83_p4 K (s 0) w) : Tr (s83_p4_den K s w) :=
  tr_simple (P := Tryd.prog) (codes := [(cd (Tryd.f83.body.getD .skip) [0]), (cd (Tryd.f83.body.getD .skip) [1, 0]), (cd (Tryd.f83.body.getD .skip) [1, 1, 0]), (cd (Tryd.f83.body.getD .skip) [1, 1, 1, 0, 0])]) (N := (fun s w => s83_p3 K (s 4) (s 5) (s 8) (s 9) (s 10) w)) (N' := (s83_p3_den K)) (X := (fun i => (fun _ _ => False))) (X' := (fun i => (fun _ _ => False))) (R := s83_R K) (s := s) (w := w) (p := s83_p4 K (s 0) w) (q := s83_p4_den K s w) (fun s w h => s83_p3_ok K s w @h) (fun i => tr_id) (by kernel_rfl) (by kernel_rfl) @h
/-- the call, from the text -/
theorem c83 (t0 : Value) {K : Value → World → Prop} {w : World} (h : s83_p4 K t0 w) : cl Tryd.prog 83 #[t0] K w :=
  calls_of_tr (c := (Tryd.f83.body.getD .skip)) (fn := Tryd.f83) (q := s83_p4_den K (st0 #[t0]) w) Tryd.func83 (by kernel_rfl) (by kernel_rfl) (Nat.le_of_ble_eq_true (by kernel_rfl)) (by kernel_rfl) (by kernel_rfl) (s83_p4_ok K (st0 #[t0]) w @h)

end Go.Proofs.Qxb6500894aDoor
