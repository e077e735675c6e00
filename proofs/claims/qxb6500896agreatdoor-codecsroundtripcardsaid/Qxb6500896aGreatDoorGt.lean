import Derived.Test.Qxb6500896aGreatDoorProg
import Derived.Test.Qxb6500896aGreatDoorShMix3
namespace Go.Proofs.Qxb6500896aGreatDoor
open Go.Sh Go.RowKit
set_option linter.unusedVariables false
set_option maxRecDepth 100000

/-! ### function 26 : e2e.engine.Trace -/
def s26_R (K : Value → World → Prop) (s : Nat → Value) (w : World) : Prop := retv Tryz.prog s Tryz.f26.results.toList (fun vs => K (pack vs) w) w
def s26_p1 (K : Value → World → Prop) (t8 : Value) (w : World) : Prop :=
  K t8 w
def s26_p1_den (K : Value → World → Prop) : (Nat → Value) → World → Prop := denL Tryz.prog [(cd (Tryz.f26.body.getD .skip) [1, 1, 1, 1, 1, 1, 1, 1, 1, 0]), (cd (Tryz.f26.body.getD .skip) [1, 1, 1, 1, 1, 1, 1, 1, 1, 1])] (fun _ _ => False) (fun i => (fun _ _ => False)) (s26_R K)
theorem s26_p1_ok (K : Value → World → Prop) (s : Nat → Value) (w : World) (h : s26_p1 K (s 8) w) : Tr (s26_p1_den K s w) :=
  tr_simple (P := Tryz.prog) (codes := [(cd (Tryz.f26.body.getD .skip) [1, 1, 1, 1, 1, 1, 1, 1, 1, 0]), (cd (Tryz.f26.body.getD .skip) [1, 1, 1, 1, 1, 1, 1, 1, 1, 1])]) (N := (fun _ _ => False)) (N' := (fun _ _ => False)) (X := (fun i => (fun _ _ => False))) (X' := (fun i => (fun _ _ => False))) (R := s26_R K) (s := s) (w := w) (p := s26_p1 K (s 8) w) (q := s26_p1_den K s w) tr_id (fun i => tr_id) (by kernel_rfl) (by kernel_rfl) @h
def s26_p2 (K : Value → World → Prop) (B1 : List Value → World → Prop) (t8 t36 t37 t38 : Value) (w : World) : Prop :=
  boI .lss t38 t37 (fun t39 w =>
  ifb t39
  (ixs 1 t36 t38 (fun t40 w =>
  ld1 t40 (fun t41 w =>
  cl Tryz.prog 61 #[t41] (fun t44 w =>
  bsq 9 [(.string ⟨#[]⟩)] 1 [(some (0, 1), t44)] (fun t45 w =>
  apq 9 [(.string ⟨#[]⟩)] 16 t8 t45 (fun t46 w =>
  boI .add t38 (.int .i64 1) (fun t47 w =>
  B1 [t46, t36, t37, t47] w) w) w) w) w) w) w)
  (s26_p1 K t8 w)) w
def s26_p2_den (K : Value → World → Prop) (M1 : (Nat → Value) → World → Prop) : (Nat → Value) → World → Prop := denL Tryz.prog [(cd (Tryz.f26.body.getD .skip) [1, 1, 1, 1, 1, 1, 1, 1, 0, 1, 0, 0, 0]), (cd (Tryz.f26.body.getD .skip) [1, 1, 1, 1, 1, 1, 1, 1, 0, 1, 0, 0, 1, 0]), (cd (Tryz.f26.body.getD .skip) [1, 1, 1, 1, 1, 1, 1, 1, 0, 1, 0, 0, 1, 1, 0]), (cd (Tryz.f26.body.getD .skip) [1, 1, 1, 1, 1, 1, 1, 1, 0, 1, 0, 0, 1, 1, 1])] M1 (fun i => (bif Nat.beq i 0 then (s26_p1_den K) else (fun _ _ => False))) (s26_R K)
theorem s26_p2_ok (K : Value → World → Prop) (B1 : List Value → World → Prop) (s : Nat → Value) (w : World) (h : s26_p2 K B1 (s 8) (s 36) (s 37) (s 38) w) : Tr (s26_p2_den K (fun s w => B1 [s 8, s 36, s 37, s 38] w) s w) :=
  tr_simple (P := Tryz.prog) (codes := [(cd (Tryz.f26.body.getD .skip) [1, 1, 1, 1, 1, 1, 1, 1, 0, 1, 0, 0, 0]), (cd (Tryz.f26.body.getD .skip) [1, 1, 1, 1, 1, 1, 1, 1, 0, 1, 0, 0, 1, 0]), (cd (Tryz.f26.body.getD .skip) [1, 1, 1, 1, 1, 1, 1, 1, 0, 1, 0, 0, 1, 1, 0]), (cd (Tryz.f26.body.getD .skip) [1, 1, 1, 1, 1, 1, 1, 1, 0, 1, 0, 0, 1, 1, 1])]) (N := (fun s w => B1 [s 8, s 36, s 37, s 38] w)) (N' := (fun s w => B1 [s 8, s 36, s 37, s 38] w)) (X := (fun i => (bif Nat.beq i 0 then (fun s w => s26_p1 K (s 8) w) else (fun _ _ => False)))) (X' := (fun i => (bif Nat.beq i 0 then (s26_p1_den K) else (fun _ _ => False)))) (R := s26_R K) (s := s) (w := w) (p := s26_p2 K B1 (s 8) (s 36) (s 37) (s 38) w) (q := s26_p2_den K (fun s w => B1 [s 8, s 36, s 37, s 38] w) s w) tr_id (fun i => (tr_bif (fun s w h => s26_p1_ok K s w @h) tr_id)) (by kernel_rfl) (by kernel_rfl) @h
def s26_p3_F (K : Value → World → Prop) (B1 : List Value → World → Prop) (l : List Value) (w : World) : Prop :=
  match l with
  | [t8, t36, t37, t38] => s26_p2 K B1 t8 t36 t37 t38 w
  | _ => False
theorem s26_p3_Fe {K : Value → World → Prop} {B1 : List Value → World → Prop} {t8 t36 t37 t38 : Value} {w : World} : s26_p3_F K B1 [t8, t36, t37, t38] w = s26_p2 K B1 t8 t36 t37 t38 w := by kernel_rfl
def s26_p3 (K : Value → World → Prop) (t8 t36 t37 t38 : Value) (w : World) : Prop :=
  LoopL (s26_p3_F K) [t8, t36, t37, t38] w
def s26_p3_den (K : Value → World → Prop) : (Nat → Value) → World → Prop := fun s w => LoopP (fun M1 s w => s26_p2_den K M1 s w) s w
theorem s26_p3_ok (K : Value → World → Prop) (s : Nat → Value) (w : World) (h : s26_p3 K (s 8) (s 36) (s 37) (s 38) w) : Tr (s26_p3_den K s w) :=
  tr_loop (G := fun N' s w => s26_p2_den K N' s w) (F := s26_p3_F K) (sel := fun s => [s 8, s 36, s 37, s 38]) (s := s) (w := w) (p := s26_p3 K (s 8) (s 36) (s 37) (s 38) w) (q := s26_p3_den K s w) (fun B s w h => s26_p2_ok K B s w @h) (by kernel_rfl) (by kernel_rfl) @h
def s26_p4 (K : Value → World → Prop) (t6 t8 : Value) (w : World) : Prop :=
  lnS t6 (fun t37 w =>
  s26_p3 K t8 t6 t37 (.int .i64 0) w) w
def s26_p4_den (K : Value → World → Prop) : (Nat → Value) → World → Prop := denL Tryz.prog [(cd (Tryz.f26.body.getD .skip) [1, 1, 1, 1, 1, 1, 1, 1, 0, 0])] (s26_p3_den K) (fun i => (fun _ _ => False)) (s26_R K)
theorem s26_p4_ok (K : Value → World → Prop) (s : Nat → Value) (w : World) (h : s26_p4 K (s 6) (s 8) w) : Tr (s26_p4_den K s w) :=
  tr_simple (P := Tryz.prog) (codes := [(cd (Tryz.f26.body.getD .skip) [1, 1, 1, 1, 1, 1, 1, 1, 0, 0])]) (N := (fun s w => s26_p3 K (s 8) (s 36) (s 37) (s 38) w)) (N' := (s26_p3_den K)) (X := (fun i => (fun _ _ => False))) (X' := (fun i => (fun _ _ => False))) (R := s26_R K) (s := s) (w := w) (p := s26_p4 K (s 6) (s 8) w) (q := s26_p4_den K s w) (fun s w h => s26_p3_ok K s w @h) (fun i => tr_id) (by kernel_rfl) (by kernel_rfl) @h
def s26_p5 (K : Value → World → Prop) (t0 : Value) (w : World) : Prop :=
  cl Tryz.prog 23 #[t0] (fun t12 w =>
  cl Tryz.prog 49 #[t12] (fun t14 w =>
  cl Tryz.prog 15 #[t12, (.int .i64 0), (.int .i64 0)] (fun t16 w =>
  cl Tryz.prog 52 #[t12] (fun t19 w =>
  exq t19 0 (fun t20 w =>
  exq t19 1 (fun t21 w =>
  exq t19 2 (fun t22 w =>
  exq t19 3 (fun t23 w =>
  boI .neq t23 (.int .i64 0) (fun t25 w =>
  ifb t25
  (cl Tryz.prog 59 #[t23] (fun t27 w =>
  boS .add (.string ⟨#[106, 111, 117, 114, 110, 97, 108, 58, 32]⟩) t27 (fun t28 w =>
  bsq 9 [(.string ⟨#[]⟩)] 1 [(some (0, 1), t28)] (fun t29 w =>
  K t29 w) w) w) w)
  (ifb t21
  (cl Tryz.prog 60 #[t20] (fun t33 w =>
  bsq 9 [(.string ⟨#[]⟩)] 1 [(some (0, 1), t33)] (fun t34 w =>
  apq 9 [(.string ⟨#[]⟩)] 16 (.slice none 0 0) t34 (fun t35 w =>
  s26_p4 K t22 t35 w) w) w) w)
  (s26_p4 K t22 (.slice none 0 0) w))) w) w) w) w) w) w) w) w) w
def s26_p5_den (K : Value → World → Prop) : (Nat → Value) → World → Prop := denL Tryz.prog [(cd (Tryz.f26.body.getD .skip) [0]), (cd (Tryz.f26.body.getD .skip) [1, 0]), (cd (Tryz.f26.body.getD .skip) [1, 1, 0]), (cd (Tryz.f26.body.getD .skip) [1, 1, 1, 0]), (cd (Tryz.f26.body.getD .skip) [1, 1, 1, 1, 0]), (cd (Tryz.f26.body.getD .skip) [1, 1, 1, 1, 1, 0, 0]), (cd (Tryz.f26.body.getD .skip) [1, 1, 1, 1, 1, 0, 1]), (cd (Tryz.f26.body.getD .skip) [1, 1, 1, 1, 1, 1, 0]), (cd (Tryz.f26.body.getD .skip) [1, 1, 1, 1, 1, 1, 1, 0, 0]), (cd (Tryz.f26.body.getD .skip) [1, 1, 1, 1, 1, 1, 1, 0, 1])] (s26_p4_den K) (fun i => (fun _ _ => False)) (s26_R K)
theorem s26_p5_ok (K : Value → World → Prop) (s : Nat → Value) (w : World) (h : s26_p5 K (s 0) w) : Tr (s26_p5_den K s w) :=
  tr_simple (P := Tryz.prog) (codes := [(cd (Tryz.f26.body.getD .skip) [0]), (cd (Tryz.f26.body.getD .skip) [1, 0]), (cd (Tryz.f26.body.getD .skip) [1, 1, 0]), (cd (Tryz.f26.body.getD .skip) [1, 1, 1, 0]), (cd (Tryz.f26.body.getD .skip) [1, 1, 1, 1, 0]), (cd (Tryz.f26.body.getD .skip) [1, 1, 1, 1, 1, 0, 0]), (cd (Tryz.f26.body.getD .skip) [1, 1, 1, 1, 1, 0, 1]), (cd (Tryz.f26.body.getD .skip) [1, 1, 1, 1, 1, 1, 0]), (cd (Tryz.f26.body.getD .skip) [1, 1, 1, 1, 1, 1, 1, 0, 0]), (cd (Tryz.f26.body.getD .skip) [1, 1, 1, 1, 1, 1, 1, 0, 1])]) (N := (fun s w => s26_p4 K (s 6) (s 8) w)) (N' := (s26_p4_den K)) (X := (fun i => (fun _ _ => False))) (X' := (fun i => (fun _ _ => False))) (R := s26_R K) (s := s) (w := w) (p := s26_p5 K (s 0) w) (q := s26_p5_den K s w) (fun s w h => s26_p4_ok K s w @h) (fun i => tr_id) (by kernel_rfl) (by kernel_rfl) @h
/-- the call, from the text -/
theorem c26 (t0 : Value) {K : Value → World → Prop} {w : World} (h : s26_p5 K t0 w) : cl Tryz.prog 26 #[t0] K w :=
  calls_of_tr (c := (Tryz.f26.body.getD .skip)) (fn := Tryz.f26) (q := s26_p5_den K (st0 #[t0]) w) Tryz.func26 (by kernel_rfl) (by kernel_rfl) (Nat.le_of_ble_eq_true (by kernel_rfl)) (by kernel_rfl) (by kernel_rfl) (s26_p5_ok K (st0 #[t0]) w @h)

/-! ### function 60 : e2e.engine.traceSnapshot -/
def s60_R (K : Value → World → Prop) (s : Nat → Value) (w : World) : Prop := retv Tryz.prog s Tryz.f60.results.toList (fun vs => K (pack vs) w) w
def s60_p1 (K : Value → World → Prop) (t0 t3 t5 t8 : Value) (w : World) : Prop :=
  fd 3 t3 (fun t42 w =>
  ld1 t42 (fun t43 w =>
  lnS t43 (fun t44 w =>
  cl Tryz.prog 92 #[t8, (.string ⟨#[114, 101, 99, 111, 114, 100, 115]⟩), t44] (fun t45 w =>
  cl Tryz.prog 92 #[t45, (.string ⟨#[119, 97, 105, 116, 105, 110, 103]⟩), t5] (fun t47 w =>
  lnS t0 (fun t49 w =>
  cl Tryz.prog 92 #[t47, (.string ⟨#[98, 121, 116, 101, 115]⟩), t49] (fun t50 w =>
  cl Tryz.prog 93 #[t8] (fun t52 w =>
  K t52 w) w) w) w) w) w) w) w) w
def s60_p1_den (K : Value → World → Prop) : (Nat → Value) → World → Prop := denL Tryz.prog [(cd (Tryz.f60.body.getD .skip) [1, 1, 1, 1, 1, 1, 1, 0]), (cd (Tryz.f60.body.getD .skip) [1, 1, 1, 1, 1, 1, 1, 1, 0]), (cd (Tryz.f60.body.getD .skip) [1, 1, 1, 1, 1, 1, 1, 1, 1])] (fun _ _ => False) (fun i => (fun _ _ => False)) (s60_R K)
theorem s60_p1_ok (K : Value → World → Prop) (s : Nat → Value) (w : World) (h : s60_p1 K (s 0) (s 3) (s 5) (s 8) w) : Tr (s60_p1_den K s w) :=
  tr_simple (P := Tryz.prog) (codes := [(cd (Tryz.f60.body.getD .skip) [1, 1, 1, 1, 1, 1, 1, 0]), (cd (Tryz.f60.body.getD .skip) [1, 1, 1, 1, 1, 1, 1, 1, 0]), (cd (Tryz.f60.body.getD .skip) [1, 1, 1, 1, 1, 1, 1, 1, 1])]) (N := (fun _ _ => False)) (N' := (fun _ _ => False)) (X := (fun i => (fun _ _ => False))) (X' := (fun i => (fun _ _ => False))) (R := s60_R K) (s := s) (w := w) (p := s60_p1 K (s 0) (s 3) (s 5) (s 8) w) (q := s60_p1_den K s w) tr_id (fun i => tr_id) (by kernel_rfl) (by kernel_rfl) @h
def s60_p2_d (K : Value → World → Prop) (J : World → Prop) (t0 t3 t5 t8 : Value) (w0 w : World) : Prop :=
  fd 1 t3 (fun t35 _ =>
  Go.Sh.R.qw J (ld1 t35) (fun t36 =>
  fd 2 t3 (fun t38 _ =>
  Go.Sh.R.qw J (ld1 t38) (fun t39 =>
  cl Tryz.prog 91 #[t8, (.string ⟨#[115, 110, 97, 112, 115, 104, 111, 116]⟩)] (fun t34 w =>
  J w ∧
  cl Tryz.prog 92 #[t34, (.string ⟨#[115, 101, 113]⟩), t36] (fun t37 w =>
  J w ∧
  cl Tryz.prog 92 #[t37, (.string ⟨#[110, 111, 119]⟩), t39] (fun t40 w =>
  s60_p1 K t0 t3 t5 t8 w) w) w) w)) w0)) w0
def s60_p2 (K : Value → World → Prop) (t0 t3 t5 t8 : Value) (w : World) : Prop := ∃ J : World → Prop, J (drw w) ∧ s60_p2_d K J t0 t3 t5 t8 (drw w) (drw w)
def s60_p2_den (K : Value → World → Prop) : (Nat → Value) → World → Prop := denL Tryz.prog [(cd (Tryz.f60.body.getD .skip) [1, 1, 1, 1, 1, 1, 0])] (s60_p1_den K) (fun i => (fun _ _ => False)) (s60_R K)
theorem s60_p2_ok (K : Value → World → Prop) (s : Nat → Value) (w : World) (h : s60_p2 K (s 0) (s 3) (s 5) (s 8) w) : Tr (s60_p2_den K s w) :=
  Go.Sh.R.tr_drawR (P := Tryz.prog) (ops := (ro (cd (Tryz.f60.body.getD .skip) [1, 1, 1, 1, 1, 1, 0]))) (ms := [0, 1, 0, 4, 15, 0, 32, 127]) (cs := [0, 2, 3, 5, 6]) (N := (fun s w => s60_p1 K (s 0) (s 3) (s 5) (s 8) w)) (N' := (s60_p1_den K)) (s := s) (w := w) (p := fun J => s60_p2_d K J (s 0) (s 3) (s 5) (s 8) (drw w) (drw w)) (q := s60_p2_den K s w) (by kernel_rfl) (by kernel_rfl) (fun s w h => s60_p1_ok K s w @h) (by kernel_rfl) (by kernel_rfl) @h
def s60_p3 (K : Value → World → Prop) (t0 t3 t5 : Value) (w : World) : Prop :=
  bdq [(.slice none 0 0)] [] (fun t31 w =>
  nw 169 (t31).cells (fun t32 w =>
  s60_p2 K t0 t3 t5 t32 w) w) w
def s60_p3_den (K : Value → World → Prop) : (Nat → Value) → World → Prop := denL Tryz.prog [(cd (Tryz.f60.body.getD .skip) [1, 1, 1, 1, 1, 0])] (s60_p2_den K) (fun i => (fun _ _ => False)) (s60_R K)
theorem s60_p3_ok (K : Value → World → Prop) (s : Nat → Value) (w : World) (h : s60_p3 K (s 0) (s 3) (s 5) w) : Tr (s60_p3_den K s w) :=
  tr_simple (P := Tryz.prog) (codes := [(cd (Tryz.f60.body.getD .skip) [1, 1, 1, 1, 1, 0])]) (N := (fun s w => s60_p2 K (s 0) (s 3) (s 5) (s 8) w)) (N' := (s60_p2_den K)) (X := (fun i => (fun _ _ => False))) (X' := (fun i => (fun _ _ => False))) (R := s60_R K) (s := s) (w := w) (p := s60_p3 K (s 0) (s 3) (s 5) w) (q := s60_p3_den K s w) (fun s w h => s60_p2_ok K s w @h) (fun i => tr_id) (by kernel_rfl) (by kernel_rfl) @h
def s60_p4 (K : Value → World → Prop) (B1 : List Value → World → Prop) (t0 t3 t5 t20 t21 t22 : Value) (w : World) : Prop :=
  boI .lss t22 t21 (fun t23 w =>
  ifb t23
  (ixs 1 t20 t22 (fun t24 w =>
  ld1 t24 (fun t25 w =>
  lnS t25 (fun t28 w =>
  boI .add t5 t28 (fun t29 w =>
  boI .add t22 (.int .i64 1) (fun t30 w =>
  B1 [t0, t3, t29, t20, t21, t30] w) w) w) w) w) w)
  (s60_p3 K t0 t3 t5 w)) w
def s60_p4_den (K : Value → World → Prop) (M1 : (Nat → Value) → World → Prop) : (Nat → Value) → World → Prop := denL Tryz.prog [(cd (Tryz.f60.body.getD .skip) [1, 1, 1, 1, 0, 1, 0, 0, 0]), (cd (Tryz.f60.body.getD .skip) [1, 1, 1, 1, 0, 1, 0, 0, 1, 0]), (cd (Tryz.f60.body.getD .skip) [1, 1, 1, 1, 0, 1, 0, 0, 1, 1, 0]), (cd (Tryz.f60.body.getD .skip) [1, 1, 1, 1, 0, 1, 0, 0, 1, 1, 1])] M1 (fun i => (bif Nat.beq i 0 then (s60_p3_den K) else (fun _ _ => False))) (s60_R K)
theorem s60_p4_ok (K : Value → World → Prop) (B1 : List Value → World → Prop) (s : Nat → Value) (w : World) (h : s60_p4 K B1 (s 0) (s 3) (s 5) (s 20) (s 21) (s 22) w) : Tr (s60_p4_den K (fun s w => B1 [s 0, s 3, s 5, s 20, s 21, s 22] w) s w) :=
  tr_simple (P := Tryz.prog) (codes := [(cd (Tryz.f60.body.getD .skip) [1, 1, 1, 1, 0, 1, 0, 0, 0]), (cd (Tryz.f60.body.getD .skip) [1, 1, 1, 1, 0, 1, 0, 0, 1, 0]), (cd (Tryz.f60.body.getD .skip) [1, 1, 1, 1, 0, 1, 0, 0, 1, 1, 0]), (cd (Tryz.f60.body.getD .skip) [1, 1, 1, 1, 0, 1, 0, 0, 1, 1, 1])]) (N := (fun s w => B1 [s 0, s 3, s 5, s 20, s 21, s 22] w)) (N' := (fun s w => B1 [s 0, s 3, s 5, s 20, s 21, s 22] w)) (X := (fun i => (bif Nat.beq i 0 then (fun s w => s60_p3 K (s 0) (s 3) (s 5) w) else (fun _ _ => False)))) (X' := (fun i => (bif Nat.beq i 0 then (s60_p3_den K) else (fun _ _ => False)))) (R := s60_R K) (s := s) (w := w) (p := s60_p4 K B1 (s 0) (s 3) (s 5) (s 20) (s 21) (s 22) w) (q := s60_p4_den K (fun s w => B1 [s 0, s 3, s 5, s 20, s 21, s 22] w) s w) tr_id (fun i => (tr_bif (fun s w h => s60_p3_ok K s w @h) tr_id)) (by kernel_rfl) (by kernel_rfl) @h
def s60_p5_F (K : Value → World → Prop) (B1 : List Value → World → Prop) (l : List Value) (w : World) : Prop :=
  match l with
  | [t0, t3, t5, t20, t21, t22] => s60_p4 K B1 t0 t3 t5 t20 t21 t22 w
  | _ => False
theorem s60_p5_Fe {K : Value → World → Prop} {B1 : List Value → World → Prop} {t0 t3 t5 t20 t21 t22 : Value} {w : World} : s60_p5_F K B1 [t0, t3, t5, t20, t21, t22] w = s60_p4 K B1 t0 t3 t5 t20 t21 t22 w := by kernel_rfl
def s60_p5 (K : Value → World → Prop) (t0 t3 t5 t20 t21 t22 : Value) (w : World) : Prop :=
  LoopL (s60_p5_F K) [t0, t3, t5, t20, t21, t22] w
def s60_p5_den (K : Value → World → Prop) : (Nat → Value) → World → Prop := fun s w => LoopP (fun M1 s w => s60_p4_den K M1 s w) s w
theorem s60_p5_ok (K : Value → World → Prop) (s : Nat → Value) (w : World) (h : s60_p5 K (s 0) (s 3) (s 5) (s 20) (s 21) (s 22) w) : Tr (s60_p5_den K s w) :=
  tr_loop (G := fun N' s w => s60_p4_den K N' s w) (F := s60_p5_F K) (sel := fun s => [s 0, s 3, s 5, s 20, s 21, s 22]) (s := s) (w := w) (p := s60_p5 K (s 0) (s 3) (s 5) (s 20) (s 21) (s 22) w) (q := s60_p5_den K s w) (fun B s w h => s60_p4_ok K B s w @h) (by kernel_rfl) (by kernel_rfl) @h
def s60_p6 (K : Value → World → Prop) (t0 : Value) (w : World) : Prop :=
  cl Tryz.prog 83 #[t0] (fun t11 w =>
  exq t11 0 (fun t12 w =>
  exq t11 1 (fun t13 w =>
  nw 141 #[(.int .i64 0), (.int .i64 0), (.int .i64 0), (.slice none 0 0), (.slice none 0 0)] (fun t3 w =>
  stn 5 t3 t12 (fun w =>
  un .not t13 (fun t15 w =>
  ifb t15
  (cl Tryz.prog 68 #[t0] (fun t17 w =>
  boS .add (.string ⟨#[115, 110, 97, 112, 115, 104, 111, 116, 32, 117, 110, 114, 101, 97, 100, 97, 98, 108, 101, 32]⟩) t17 (fun t18 w =>
  K t18 w) w) w)
  (fd 4 t3 (fun t19 w =>
  ld1 t19 (fun t20 w =>
  lnS t20 (fun t21 w =>
  s60_p5 K t0 t3 (.int .i64 0) t20 t21 (.int .i64 0) w) w) w) w)) w) w) w) w) w) w
def s60_p6_den (K : Value → World → Prop) : (Nat → Value) → World → Prop := denL Tryz.prog [(cd (Tryz.f60.body.getD .skip) [0]), (cd (Tryz.f60.body.getD .skip) [1, 0]), (cd (Tryz.f60.body.getD .skip) [1, 1, 0, 0]), (cd (Tryz.f60.body.getD .skip) [1, 1, 0, 1]), (cd (Tryz.f60.body.getD .skip) [1, 1, 1, 0]), (cd (Tryz.f60.body.getD .skip) [1, 1, 1, 1, 0, 0])] (s60_p5_den K) (fun i => (fun _ _ => False)) (s60_R K)
theorem s60_p6_ok (K : Value → World → Prop) (s : Nat → Value) (w : World) (h : s60_p6 K (s 0) w) : Tr (s60_p6_den K s w) :=
  tr_simple (P := Tryz.prog) (codes := [(cd (Tryz.f60.body.getD .skip) [0]), (cd (Tryz.f60.body.getD .skip) [1, 0]), (cd (Tryz.f60.body.getD .skip) [1, 1, 0, 0]), (cd (Tryz.f60.body.getD .skip) [1, 1, 0, 1]), (cd (Tryz.f60.body.getD .skip) [1, 1, 1, 0]), (cd (Tryz.f60.body.getD .skip) [1, 1, 1, 1, 0, 0])]) (N := (fun s w => s60_p5 K (s 0) (s 3) (s 5) (s 20) (s 21) (s 22) w)) (N' := (s60_p5_den K)) (X := (fun i => (fun _ _ => False))) (X' := (fun i => (fun _ _ => False))) (R := s60_R K) (s := s) (w := w) (p := s60_p6 K (s 0) w) (q := s60_p6_den K s w) (fun s w h => s60_p5_ok K s w @h) (fun i => tr_id) (by kernel_rfl) (by kernel_rfl) @h
/-- the call, from the text -/
theorem c60 (t0 : Value) {K : Value → World → Prop} {w : World} (h : s60_p6 K t0 w) : cl Tryz.prog 60 #[t0] K w :=
  calls_of_tr (c := (Tryz.f60.body.getD .skip)) (fn := Tryz.f60) (q := s60_p6_den K (st0 #[t0]) w) Tryz.func60 (by kernel_rfl) (by kernel_rfl) (Nat.le_of_ble_eq_true (by kernel_rfl)) (by kernel_rfl) (by kernel_rfl) (s60_p6_ok K (st0 #[t0]) w @h)

/-! ### function 61 : e2e.engine.traceEntry -/
def s61_R (K : Value → World → Prop) (s : Nat → Value) (w : World) : Prop := retv Tryz.prog s Tryz.f61.results.toList (fun vs => K (pack vs) w) w
def s61_p1 (K : Value → World → Prop) (t2 : Value) (w : World) : Prop :=
  K t2 w
def s61_p1_den (K : Value → World → Prop) : (Nat → Value) → World → Prop := denL Tryz.prog [(cd (Tryz.f61.body.getD .skip) [1, 1, 1, 1])] (fun _ _ => False) (fun i => (fun _ _ => False)) (s61_R K)
theorem s61_p1_ok (K : Value → World → Prop) (s : Nat → Value) (w : World) (h : s61_p1 K (s 2) w) : Tr (s61_p1_den K s w) :=
  tr_simple (P := Tryz.prog) (codes := [(cd (Tryz.f61.body.getD .skip) [1, 1, 1, 1])]) (N := (fun _ _ => False)) (N' := (fun _ _ => False)) (X := (fun i => (fun _ _ => False))) (X' := (fun i => (fun _ _ => False))) (R := s61_R K) (s := s) (w := w) (p := s61_p1 K (s 2) w) (q := s61_p1_den K s w) tr_id (fun i => tr_id) (by kernel_rfl) (by kernel_rfl) @h
def s61_p2_d (K : Value → World → Prop) (t3 t4 : Value) (w0 w : World) : Prop :=
  ldn 8 t4 (fun t21 _ =>
  cl Tryz.prog 56 #[t3] (fun t18 w =>
  Below w0.heap.size w0 w ∧
  (boS .add (.string ⟨#[101, 110, 116, 114, 121, 32]⟩) t18 (fun t19 w =>
  Below w0.heap.size w0 w ∧
  (boS .add t19 (.string ⟨#[58, 32]⟩) (fun t20 w =>
  Below w0.heap.size w0 w ∧
  cl Tryz.prog 69 #[t21] (fun t22 w =>
  boS .add t20 t22 (fun t23 w =>
  s61_p1 K t23 w) w) w) w) ∧
  (cl Tryz.prog 69 #[t21] (fun t22_2 w =>
  boS .add t19 (.string ⟨#[58, 32]⟩) (fun t20_2 w =>
  Below w0.heap.size w0 w ∧
  boS .add t20_2 t22_2 (fun t23_2 w =>
  s61_p1 K t23_2 w) w) w) w)) w) ∧
  (cl Tryz.prog 69 #[t21] (fun t22_3 w =>
  boS .add (.string ⟨#[101, 110, 116, 114, 121, 32]⟩) t18 (fun t19_2 w =>
  Below w0.heap.size w0 w ∧
  boS .add t19_2 (.string ⟨#[58, 32]⟩) (fun t20_3 w =>
  Below w0.heap.size w0 w ∧
  boS .add t20_3 t22_3 (fun t23_3 w =>
  s61_p1 K t23_3 w) w) w) w) w)) w) w0
def s61_p2 (K : Value → World → Prop) (t3 t4 : Value) (w : World) : Prop := s61_p2_d K t3 t4 (drw w) (drw w)
def s61_p2_den (K : Value → World → Prop) : (Nat → Value) → World → Prop := denL Tryz.prog [(cd (Tryz.f61.body.getD .skip) [1, 1, 1, 0])] (s61_p1_den K) (fun i => (fun _ _ => False)) (s61_R K)
theorem s61_p2_ok (K : Value → World → Prop) (s : Nat → Value) (w : World) (h : s61_p2 K (s 3) (s 4) w) : Tr (s61_p2_den K s w) :=
  tr_draw (P := Tryz.prog) (ops := (ro (cd (Tryz.f61.body.getD .skip) [1, 1, 1, 0]))) (ms := [0, 1, 3, 7, 0, 19, 63, 127]) (cs := [0, 4]) (N := (fun s w => s61_p1 K (s 2) w)) (N' := (s61_p1_den K)) (s := s) (w := w) (p := s61_p2 K (s 3) (s 4) w) (q := s61_p2_den K s w) (by kernel_rfl) (by kernel_rfl) (fun s w h => s61_p1_ok K s w @h) (by kernel_rfl) (by kernel_rfl) @h
def s61_p3 (K : Value → World → Prop) (t0 : Value) (w : World) : Prop :=
  cl Tryz.prog 86 #[t0] (fun t8 w =>
  exq t8 0 (fun t9 w =>
  exq t8 1 (fun t10 w =>
  exq t8 2 (fun t11 w =>
  nw 49 #[(.int .u8 0), (.int .i64 0), (.int .i64 0), (.int .i64 0), (.int .i64 0), (.int .i64 0), (.int .i64 0), (.slice none 0 0)] (fun t4 w =>
  stn 8 t4 t10 (fun w =>
  un .not t11 (fun t13 w =>
  ifb t13
  (cl Tryz.prog 68 #[t0] (fun t15 w =>
  boS .add (.string ⟨#[101, 110, 116, 114, 121, 32, 117, 110, 114, 101, 97, 100, 97, 98, 108, 101, 32]⟩) t15 (fun t16 w =>
  K t16 w) w) w)
  (s61_p2 K t9 t4 w)) w) w) w) w) w) w) w
def s61_p3_den (K : Value → World → Prop) : (Nat → Value) → World → Prop := denL Tryz.prog [(cd (Tryz.f61.body.getD .skip) [0]), (cd (Tryz.f61.body.getD .skip) [1, 0]), (cd (Tryz.f61.body.getD .skip) [1, 1, 0, 0]), (cd (Tryz.f61.body.getD .skip) [1, 1, 0, 1])] (s61_p2_den K) (fun i => (fun _ _ => False)) (s61_R K)
theorem s61_p3_ok (K : Value → World → Prop) (s : Nat → Value) (w : World) (h : s61_p3 K (s 0) w) : Tr (s61_p3_den K s w) :=
  tr_simple (P := Tryz.prog) (codes := [(cd (Tryz.f61.body.getD .skip) [0]), (cd (Tryz.f61.body.getD .skip) [1, 0]), (cd (Tryz.f61.body.getD .skip) [1, 1, 0, 0]), (cd (Tryz.f61.body.getD .skip) [1, 1, 0, 1])]) (N := (fun s w => s61_p2 K (s 3) (s 4) w)) (N' := (s61_p2_den K)) (X := (fun i => (fun _ _ => False))) (X' := (fun i => (fun _ _ => False))) (R := s61_R K) (s := s) (w := w) (p := s61_p3 K (s 0) w) (q := s61_p3_den K s w) (fun s w h => s61_p2_ok K s w @h) (fun i => tr_id) (by kernel_rfl) (by kernel_rfl) @h
/-- the call, from the text -/
theorem c61 (t0 : Value) {K : Value → World → Prop} {w : World} (h : s61_p3 K t0 w) : cl Tryz.prog 61 #[t0] K w :=
  calls_of_tr (c := (Tryz.f61.body.getD .skip)) (fn := Tryz.f61) (q := s61_p3_den K (st0 #[t0]) w) Tryz.func61 (by kernel_rfl) (by kernel_rfl) (Nat.le_of_ble_eq_true (by kernel_rfl)) (by kernel_rfl) (by kernel_rfl) (s61_p3_ok K (st0 #[t0]) w @h)

/-! ### function 68 : e2e.engine.hex -/
def s68_R (K : Value → World → Prop) (s : Nat → Value) (w : World) : Prop := retv Tryz.prog s Tryz.f68.results.toList (fun vs => K (pack vs) w) w
def s68_p1 (K : Value → World → Prop) (t3 : Value) (w : World) : Prop :=
  rs Tryz.prog (convert 35 9 t3) (fun t27 w =>
  K t27 w) w
def s68_p1_den (K : Value → World → Prop) : (Nat → Value) → World → Prop := denL Tryz.prog [(cd (Tryz.f68.body.getD .skip) [1, 1, 1, 0]), (cd (Tryz.f68.body.getD .skip) [1, 1, 1, 1])] (fun _ _ => False) (fun i => (fun _ _ => False)) (s68_R K)
theorem s68_p1_ok (K : Value → World → Prop) (s : Nat → Value) (w : World) (h : s68_p1 K (s 3) w) : Tr (s68_p1_den K s w) :=
  tr_simple (P := Tryz.prog) (codes := [(cd (Tryz.f68.body.getD .skip) [1, 1, 1, 0]), (cd (Tryz.f68.body.getD .skip) [1, 1, 1, 1])]) (N := (fun _ _ => False)) (N' := (fun _ _ => False)) (X := (fun i => (fun _ _ => False))) (X' := (fun i => (fun _ _ => False))) (R := s68_R K) (s := s) (w := w) (p := s68_p1 K (s 3) w) (q := s68_p1_den K s w) tr_id (fun i => tr_id) (by kernel_rfl) (by kernel_rfl) @h
def s68_p2 (K : Value → World → Prop) (B1 : List Value → World → Prop) (t3 t10 t11 t12 : Value) (w : World) : Prop :=
  boI .add t12 (.int .i64 1) (fun t25 w =>
  B1 [t3, t10, t11, t25] w) w
def s68_p2_den (K : Value → World → Prop) (M1 : (Nat → Value) → World → Prop) : (Nat → Value) → World → Prop := denL Tryz.prog [(cd (Tryz.f68.body.getD .skip) [1, 1, 0, 1, 0, 0, 1, 1, 1])] M1 (fun i => (bif Nat.beq i 0 then (s68_p1_den K) else (fun _ _ => False))) (s68_R K)
theorem s68_p2_ok (K : Value → World → Prop) (B1 : List Value → World → Prop) (s : Nat → Value) (w : World) (h : s68_p2 K B1 (s 3) (s 10) (s 11) (s 12) w) : Tr (s68_p2_den K (fun s w => B1 [s 3, s 10, s 11, s 12] w) s w) :=
  tr_simple (P := Tryz.prog) (codes := [(cd (Tryz.f68.body.getD .skip) [1, 1, 0, 1, 0, 0, 1, 1, 1])]) (N := (fun s w => B1 [s 3, s 10, s 11, s 12] w)) (N' := (fun s w => B1 [s 3, s 10, s 11, s 12] w)) (X := (fun i => (bif Nat.beq i 0 then (fun s w => s68_p1 K (s 3) w) else (fun _ _ => False)))) (X' := (fun i => (bif Nat.beq i 0 then (s68_p1_den K) else (fun _ _ => False)))) (R := s68_R K) (s := s) (w := w) (p := s68_p2 K B1 (s 3) (s 10) (s 11) (s 12) w) (q := s68_p2_den K (fun s w => B1 [s 3, s 10, s 11, s 12] w) s w) tr_id (fun i => (tr_bif (fun s w h => s68_p1_ok K s w @h) tr_id)) (by kernel_rfl) (by kernel_rfl) @h
def s68_p3_d (K : Value → World → Prop) (B1 : List Value → World → Prop) (t3 t5 t10 t11 t12 : Value) (w0 w : World) : Prop :=
  boI .shr t5 (.int .u64 4) (fun t18 _ =>
  qv (iv Tryz.prog 9 (.string ⟨#[48, 49, 50, 51, 52, 53, 54, 55, 56, 57, 97, 98, 99, 100, 101, 102]⟩) t18) w0 (fun t19 =>
  boI .and t5 (.int .u8 15) (fun t21 _ =>
  qv (iv Tryz.prog 9 (.string ⟨#[48, 49, 50, 51, 52, 53, 54, 55, 56, 57, 97, 98, 99, 100, 101, 102]⟩) t21) w0 (fun t22 =>
  (Below w0.heap.size w0 w ∧
  bsq 5 [(.int .u8 0)] 2 [(some (0, 1), t19), (some (1, 1), t22)] (fun t23 w =>
  apq 5 [(.int .u8 0)] 1 t3 t23 (fun t24 w =>
  s68_p2 K B1 t24 t10 t11 t12 w) w) w) ∧
  (bsq 5 [(.int .u8 0)] 2 [(some (0, 1), t19), (some (1, 1), t22)] (fun t23_2 w =>
  Below w0.heap.size w0 w ∧
  apq 5 [(.int .u8 0)] 1 t3 t23_2 (fun t24_2 w =>
  s68_p2 K B1 t24_2 t10 t11 t12 w) w) w))) w0)) w0
def s68_p3 (K : Value → World → Prop) (B1 : List Value → World → Prop) (t3 t5 t10 t11 t12 : Value) (w : World) : Prop := s68_p3_d K B1 t3 t5 t10 t11 t12 (drw w) (drw w)
def s68_p3_den (K : Value → World → Prop) (M1 : (Nat → Value) → World → Prop) : (Nat → Value) → World → Prop := denL Tryz.prog [(cd (Tryz.f68.body.getD .skip) [1, 1, 0, 1, 0, 0, 1, 1, 0, 0, 1])] (s68_p2_den K M1) (fun i => (bif Nat.beq i 1 then (s68_p2_den K M1) else (bif Nat.beq i 0 then (s68_p1_den K) else (fun _ _ => False)))) (s68_R K)
theorem s68_p3_ok (K : Value → World → Prop) (B1 : List Value → World → Prop) (s : Nat → Value) (w : World) (h : s68_p3 K B1 (s 3) (s 5) (s 10) (s 11) (s 12) w) : Tr (s68_p3_den K (fun s w => B1 [s 3, s 10, s 11, s 12] w) s w) :=
  tr_draw (P := Tryz.prog) (ops := (ro (cd (Tryz.f68.body.getD .skip) [1, 1, 0, 1, 0, 0, 1, 1, 0, 0, 1]))) (ms := [0, 0, 2, 6, 0, 16, 48, 126, 255, 511]) (cs := [1, 2, 3, 4, 5, 6]) (N := (fun s w => s68_p2 K B1 (s 3) (s 10) (s 11) (s 12) w)) (N' := (s68_p2_den K (fun s w => B1 [s 3, s 10, s 11, s 12] w))) (s := s) (w := w) (p := s68_p3 K B1 (s 3) (s 5) (s 10) (s 11) (s 12) w) (q := s68_p3_den K (fun s w => B1 [s 3, s 10, s 11, s 12] w) s w) (by kernel_rfl) (by kernel_rfl) (fun s w h => s68_p2_ok K B1 s w @h) (by kernel_rfl) (by kernel_rfl) @h
def s68_p4 (K : Value → World → Prop) (B1 : List Value → World → Prop) (t3 t10 t11 t12 : Value) (w : World) : Prop :=
  ixs 1 t10 t12 (fun t14 w =>
  ld1 t14 (fun t15 w =>
  s68_p3 K B1 t3 t15 t10 t11 t12 w) w) w
def s68_p4_den (K : Value → World → Prop) (M1 : (Nat → Value) → World → Prop) : (Nat → Value) → World → Prop := denL Tryz.prog [(cd (Tryz.f68.body.getD .skip) [1, 1, 0, 1, 0, 0, 1, 1, 0, 0, 0])] (s68_p3_den K M1) (fun i => (bif Nat.beq i 1 then (s68_p2_den K M1) else (bif Nat.beq i 0 then (s68_p1_den K) else (fun _ _ => False)))) (s68_R K)
theorem s68_p4_ok (K : Value → World → Prop) (B1 : List Value → World → Prop) (s : Nat → Value) (w : World) (h : s68_p4 K B1 (s 3) (s 10) (s 11) (s 12) w) : Tr (s68_p4_den K (fun s w => B1 [s 3, s 10, s 11, s 12] w) s w) :=
  tr_simple (P := Tryz.prog) (codes := [(cd (Tryz.f68.body.getD .skip) [1, 1, 0, 1, 0, 0, 1, 1, 0, 0, 0])]) (N := (fun s w => s68_p3 K B1 (s 3) (s 5) (s 10) (s 11) (s 12) w)) (N' := (s68_p3_den K (fun s w => B1 [s 3, s 10, s 11, s 12] w))) (X := (fun i => (bif Nat.beq i 1 then (fun s w => s68_p2 K B1 (s 3) (s 10) (s 11) (s 12) w) else (bif Nat.beq i 0 then (fun s w => s68_p1 K (s 3) w) else (fun _ _ => False))))) (X' := (fun i => (bif Nat.beq i 1 then (s68_p2_den K (fun s w => B1 [s 3, s 10, s 11, s 12] w)) else (bif Nat.beq i 0 then (s68_p1_den K) else (fun _ _ => False))))) (R := s68_R K) (s := s) (w := w) (p := s68_p4 K B1 (s 3) (s 10) (s 11) (s 12) w) (q := s68_p4_den K (fun s w => B1 [s 3, s 10, s 11, s 12] w) s w) (fun s w h => s68_p3_ok K B1 s w @h) (fun i => (tr_bif (fun s w h => s68_p2_ok K B1 s w @h) (tr_bif (fun s w h => s68_p1_ok K s w @h) tr_id))) (by kernel_rfl) (by kernel_rfl) @h
def s68_p5 (K : Value → World → Prop) (B1 : List Value → World → Prop) (t3 t10 t11 t12 : Value) (w : World) : Prop :=
  boI .lss t12 t11 (fun t13 w =>
  ifb t13
  (s68_p4 K B1 t3 t10 t11 t12 w)
  (s68_p1 K t3 w)) w
def s68_p5_den (K : Value → World → Prop) (M1 : (Nat → Value) → World → Prop) : (Nat → Value) → World → Prop := denL Tryz.prog [(cd (Tryz.f68.body.getD .skip) [1, 1, 0, 1, 0, 0, 0]), (cd (Tryz.f68.body.getD .skip) [1, 1, 0, 1, 0, 0, 1, 0])] (s68_p4_den K M1) (fun i => (bif Nat.beq i 0 then (s68_p1_den K) else (fun _ _ => False))) (s68_R K)
theorem s68_p5_ok (K : Value → World → Prop) (B1 : List Value → World → Prop) (s : Nat → Value) (w : World) (h : s68_p5 K B1 (s 3) (s 10) (s 11) (s 12) w) : Tr (s68_p5_den K (fun s w => B1 [s 3, s 10, s 11, s 12] w) s w) :=
  tr_simple (P := Tryz.prog) (codes := [(cd (Tryz.f68.body.getD .skip) [1, 1, 0, 1, 0, 0, 0]), (cd (Tryz.f68.body.getD .skip) [1, 1, 0, 1, 0, 0, 1, 0])]) (N := (fun s w => s68_p4 K B1 (s 3) (s 10) (s 11) (s 12) w)) (N' := (s68_p4_den K (fun s w => B1 [s 3, s 10, s 11, s 12] w))) (X := (fun i => (bif Nat.beq i 0 then (fun s w => s68_p1 K (s 3) w) else (fun _ _ => False)))) (X' := (fun i => (bif Nat.beq i 0 then (s68_p1_den K) else (fun _ _ => False)))) (R := s68_R K) (s := s) (w := w) (p := s68_p5 K B1 (s 3) (s 10) (s 11) (s 12) w) (q := s68_p5_den K (fun s w => B1 [s 3, s 10, s 11, s 12] w) s w) (fun s w h => s68_p4_ok K B1 s w @h) (fun i => (tr_bif (fun s w h => s68_p1_ok K s w @h) tr_id)) (by kernel_rfl) (by kernel_rfl) @h
def s68_p6_F (K : Value → World → Prop) (B1 : List Value → World → Prop) (l : List Value) (w : World) : Prop :=
  match l with
  | [t3, t10, t11, t12] => s68_p5 K B1 t3 t10 t11 t12 w
  | _ => False
theorem s68_p6_Fe {K : Value → World → Prop} {B1 : List Value → World → Prop} {t3 t10 t11 t12 : Value} {w : World} : s68_p6_F K B1 [t3, t10, t11, t12] w = s68_p5 K B1 t3 t10 t11 t12 w := by kernel_rfl
def s68_p6 (K : Value → World → Prop) (t3 t10 t11 t12 : Value) (w : World) : Prop :=
  LoopL (s68_p6_F K) [t3, t10, t11, t12] w
def s68_p6_den (K : Value → World → Prop) : (Nat → Value) → World → Prop := fun s w => LoopP (fun M1 s w => s68_p5_den K M1 s w) s w
theorem s68_p6_ok (K : Value → World → Prop) (s : Nat → Value) (w : World) (h : s68_p6 K (s 3) (s 10) (s 11) (s 12) w) : Tr (s68_p6_den K s w) :=
  tr_loop (G := fun N' s w => s68_p5_den K N' s w) (F := s68_p6_F K) (sel := fun s => [s 3, s 10, s 11, s 12]) (s := s) (w := w) (p := s68_p6 K (s 3) (s 10) (s 11) (s 12) w) (q := s68_p6_den K s w) (fun B s w h => s68_p5_ok K B s w @h) (by kernel_rfl) (by kernel_rfl) @h
def s68_p7 (K : Value → World → Prop) (t0 : Value) (w : World) : Prop :=
  lnS t0 (fun t7 w =>
  boI .mul (.int .i64 2) t7 (fun t8 w =>
  mks 5 [(.int .u8 0)] 1 (.int .i64 0) t8 (fun t9 w =>
  lnS t0 (fun t11 w =>
  s68_p6 K t9 t0 t11 (.int .i64 0) w) w) w) w) w
def s68_p7_den (K : Value → World → Prop) : (Nat → Value) → World → Prop := denL Tryz.prog [(cd (Tryz.f68.body.getD .skip) [0]), (cd (Tryz.f68.body.getD .skip) [1, 0]), (cd (Tryz.f68.body.getD .skip) [1, 1, 0, 0])] (s68_p6_den K) (fun i => (fun _ _ => False)) (s68_R K)
theorem s68_p7_ok (K : Value → World → Prop) (s : Nat → Value) (w : World) (h : s68_p7 K (s 0) w) : Tr (s68_p7_den K s w) :=
  tr_simple (P := Tryz.prog) (codes := [(cd (Tryz.f68.body.getD .skip) [0]), (cd (Tryz.f68.body.getD .skip) [1, 0]), (cd (Tryz.f68.body.getD .skip) [1, 1, 0, 0])]) (N := (fun s w => s68_p6 K (s 3) (s 10) (s 11) (s 12) w)) (N' := (s68_p6_den K)) (X := (fun i => (fun _ _ => False))) (X' := (fun i => (fun _ _ => False))) (R := s68_R K) (s := s) (w := w) (p := s68_p7 K (s 0) w) (q := s68_p7_den K s w) (fun s w h => s68_p6_ok K s w @h) (fun i => tr_id) (by kernel_rfl) (by kernel_rfl) @h
/-- the call, from the text -/
theorem c68 (t0 : Value) {K : Value → World → Prop} {w : World} (h : s68_p7 K t0 w) : cl Tryz.prog 68 #[t0] K w :=
  calls_of_tr (c := (Tryz.f68.body.getD .skip)) (fn := Tryz.f68) (q := s68_p7_den K (st0 #[t0]) w) Tryz.func68 (by kernel_rfl) (by kernel_rfl) (Nat.le_of_ble_eq_true (by kernel_rfl)) (by kernel_rfl) (by kernel_rfl) (s68_p7_ok K (st0 #[t0]) w @h)

/-! ### function 91 : (*e2e.engine.text).word -/
def s91_R (K : Value → World → Prop) (s : Nat → Value) (w : World) : Prop := retv Tryz.prog s Tryz.f91.results.toList (fun vs => K (pack vs) w) w
def s91_p1 (K : Value → World → Prop) (t0 t1 : Value) (w : World) : Prop :=
  nck t0 (fun t22 w =>
  fd 0 t22 (fun t23 w =>
  ld1 t23 (fun t24 w =>
  rs Tryz.prog (Builtin.append_ #[35, 9] 35 #[t24, t1]) (fun t26 w =>
  nck t0 (fun t27 w =>
  fd 0 t27 (fun t28 w =>
  st1 t28 t26 (fun w =>
  K t0 w) w) w) w) w) w) w) w
def s91_p1_den (K : Value → World → Prop) : (Nat → Value) → World → Prop := denL Tryz.prog [(cd (Tryz.f91.body.getD .skip) [1, 1, 0]), (cd (Tryz.f91.body.getD .skip) [1, 1, 1, 0]), (cd (Tryz.f91.body.getD .skip) [1, 1, 1, 1])] (fun _ _ => False) (fun i => (fun _ _ => False)) (s91_R K)
theorem s91_p1_ok (K : Value → World → Prop) (s : Nat → Value) (w : World) (h : s91_p1 K (s 0) (s 1) w) : Tr (s91_p1_den K s w) :=
  tr_simple (P := Tryz.prog) (codes := [(cd (Tryz.f91.body.getD .skip) [1, 1, 0]), (cd (Tryz.f91.body.getD .skip) [1, 1, 1, 0]), (cd (Tryz.f91.body.getD .skip) [1, 1, 1, 1])]) (N := (fun _ _ => False)) (N' := (fun _ _ => False)) (X := (fun i => (fun _ _ => False))) (X' := (fun i => (fun _ _ => False))) (R := s91_R K) (s := s) (w := w) (p := s91_p1 K (s 0) (s 1) w) (q := s91_p1_den K s w) tr_id (fun i => tr_id) (by kernel_rfl) (by kernel_rfl) @h
def s91_p2 (K : Value → World → Prop) (t0 t1 : Value) (w : World) : Prop :=
  nck t0 (fun t6 w =>
  fd 0 t6 (fun t7 w =>
  ld1 t7 (fun t8 w =>
  lnS t8 (fun t9 w =>
  boI .gtr t9 (.int .i64 0) (fun t10 w =>
  ifb t10
  (nck t0 (fun t13 w =>
  fd 0 t13 (fun t14 w =>
  ld1 t14 (fun t15 w =>
  bsq 5 [(.int .u8 0)] 1 [(some (0, 1), (.int .u8 32))] (fun t16 w =>
  apq 5 [(.int .u8 0)] 1 t15 t16 (fun t17 w =>
  nck t0 (fun t18 w =>
  fd 0 t18 (fun t19 w =>
  st1 t19 t17 (fun w =>
  s91_p1 K t0 t1 w) w) w) w) w) w) w) w) w)
  (s91_p1 K t0 t1 w)) w) w) w) w) w
def s91_p2_den (K : Value → World → Prop) : (Nat → Value) → World → Prop := denL Tryz.prog [(cd (Tryz.f91.body.getD .skip) [0]), (cd (Tryz.f91.body.getD .skip) [1, 0, 0]), (cd (Tryz.f91.body.getD .skip) [1, 0, 1])] (s91_p1_den K) (fun i => (fun _ _ => False)) (s91_R K)
theorem s91_p2_ok (K : Value → World → Prop) (s : Nat → Value) (w : World) (h : s91_p2 K (s 0) (s 1) w) : Tr (s91_p2_den K s w) :=
  tr_simple (P := Tryz.prog) (codes := [(cd (Tryz.f91.body.getD .skip) [0]), (cd (Tryz.f91.body.getD .skip) [1, 0, 0]), (cd (Tryz.f91.body.getD .skip) [1, 0, 1])]) (N := (fun s w => s91_p1 K (s 0) (s 1) w)) (N' := (s91_p1_den K)) (X := (fun i => (fun _ _ => False))) (X' := (fun i => (fun _ _ => False))) (R := s91_R K) (s := s) (w := w) (p := s91_p2 K (s 0) (s 1) w) (q := s91_p2_den K s w) (fun s w h => s91_p1_ok K s w @h) (fun i => tr_id) (by kernel_rfl) (by kernel_rfl) @h
/-- the call, from the text -/
theorem c91 (t0 t1 : Value) {K : Value → World → Prop} {w : World} (h : s91_p2 K t0 t1 w) : cl Tryz.prog 91 #[t0, t1] K w :=
  calls_of_tr (c := (Tryz.f91.body.getD .skip)) (fn := Tryz.f91) (q := s91_p2_den K (st0 #[t0, t1]) w) Tryz.func91 (by kernel_rfl) (by kernel_rfl) (Nat.le_of_ble_eq_true (by kernel_rfl)) (by kernel_rfl) (by kernel_rfl) (s91_p2_ok K (st0 #[t0, t1]) w @h)

/-! ### function 92 : (*e2e.engine.text).field -/
def s92_R (K : Value → World → Prop) (s : Nat → Value) (w : World) : Prop := retv Tryz.prog s Tryz.f92.results.toList (fun vs => K (pack vs) w) w
def s92_p1 (K : Value → World → Prop) (t0 t1 t2 : Value) (w : World) : Prop :=
  boS .add t1 (.string ⟨#[61]⟩) (fun t9 w =>
  cl Tryz.prog 56 #[t2] (fun t11 w =>
  boS .add t9 t11 (fun t12 w =>
  cl Tryz.prog 91 #[t0, t12] (fun t13 w =>
  K t13 w) w) w) w) w
def s92_p1_den (K : Value → World → Prop) : (Nat → Value) → World → Prop := denL Tryz.prog [(cd (Tryz.f92.body.getD .skip) [0]), (cd (Tryz.f92.body.getD .skip) [1, 0]), (cd (Tryz.f92.body.getD .skip) [1, 1])] (fun _ _ => False) (fun i => (fun _ _ => False)) (s92_R K)
theorem s92_p1_ok (K : Value → World → Prop) (s : Nat → Value) (w : World) (h : s92_p1 K (s 0) (s 1) (s 2) w) : Tr (s92_p1_den K s w) :=
  tr_simple (P := Tryz.prog) (codes := [(cd (Tryz.f92.body.getD .skip) [0]), (cd (Tryz.f92.body.getD .skip) [1, 0]), (cd (Tryz.f92.body.getD .skip) [1, 1])]) (N := (fun _ _ => False)) (N' := (fun _ _ => False)) (X := (fun i => (fun _ _ => False))) (X' := (fun i => (fun _ _ => False))) (R := s92_R K) (s := s) (w := w) (p := s92_p1 K (s 0) (s 1) (s 2) w) (q := s92_p1_den K s w) tr_id (fun i => tr_id) (by kernel_rfl) (by kernel_rfl) @h
/-- the call, from the text -/
theorem c92 (t0 t1 t2 : Value) {K : Value → World → Prop} {w : World} (h : s92_p1 K t0 t1 t2 w) : cl Tryz.prog 92 #[t0, t1, t2] K w :=
  calls_of_tr (c := (Tryz.f92.body.getD .skip)) (fn := Tryz.f92) (q := s92_p1_den K (st0 #[t0, t1, t2]) w) Tryz.func92 (by kernel_rfl) (by kernel_rfl) (Nat.le_of_ble_eq_true (by kernel_rfl)) (by kernel_rfl) (by kernel_rfl) (s92_p1_ok K (st0 #[t0, t1, t2]) w @h)

/-! ### function 101 : (*e2e.engine.text).legs -/
def s101_R (K : Value → World → Prop) (s : Nat → Value) (w : World) : Prop := retv Tryz.prog s Tryz.f101.results.toList (fun vs => K (pack vs) w) w
def s101_p1 (K : Value → World → Prop) (t0 t5 : Value) (w : World) : Prop :=
  boS .add (.string ⟨#[108, 101, 103, 115, 61]⟩) t5 (fun t32 w =>
  boS .add t32 (.string ⟨#[93]⟩) (fun t33 w =>
  cl Tryz.prog 91 #[t0, t33] (fun t34 w =>
  K t34 w) w) w) w
def s101_p1_den (K : Value → World → Prop) : (Nat → Value) → World → Prop := denL Tryz.prog [(cd (Tryz.f101.body.getD .skip) [1, 1, 1, 0]), (cd (Tryz.f101.body.getD .skip) [1, 1, 1, 1])] (fun _ _ => False) (fun i => (fun _ _ => False)) (s101_R K)
theorem s101_p1_ok (K : Value → World → Prop) (s : Nat → Value) (w : World) (h : s101_p1 K (s 0) (s 5) w) : Tr (s101_p1_den K s w) :=
  tr_simple (P := Tryz.prog) (codes := [(cd (Tryz.f101.body.getD .skip) [1, 1, 1, 0]), (cd (Tryz.f101.body.getD .skip) [1, 1, 1, 1])]) (N := (fun _ _ => False)) (N' := (fun _ _ => False)) (X := (fun i => (fun _ _ => False))) (X' := (fun i => (fun _ _ => False))) (R := s101_R K) (s := s) (w := w) (p := s101_p1 K (s 0) (s 5) w) (q := s101_p1_den K s w) tr_id (fun i => tr_id) (by kernel_rfl) (by kernel_rfl) @h
def s101_p2 (K : Value → World → Prop) (B1 : List Value → World → Prop) (t0 t5 t8 t9 t10 : Value) (w : World) : Prop :=
  boI .add t10 (.int .i64 1) (fun t29 w =>
  B1 [t0, t5, t8, t9, t29] w) w
def s101_p2_den (K : Value → World → Prop) (M1 : (Nat → Value) → World → Prop) : (Nat → Value) → World → Prop := denL Tryz.prog [(cd (Tryz.f101.body.getD .skip) [1, 1, 0, 1, 0, 0, 1, 1, 1])] M1 (fun i => (bif Nat.beq i 0 then (s101_p1_den K) else (fun _ _ => False))) (s101_R K)
theorem s101_p2_ok (K : Value → World → Prop) (B1 : List Value → World → Prop) (s : Nat → Value) (w : World) (h : s101_p2 K B1 (s 0) (s 5) (s 8) (s 9) (s 10) w) : Tr (s101_p2_den K (fun s w => B1 [s 0, s 5, s 8, s 9, s 10] w) s w) :=
  tr_simple (P := Tryz.prog) (codes := [(cd (Tryz.f101.body.getD .skip) [1, 1, 0, 1, 0, 0, 1, 1, 1])]) (N := (fun s w => B1 [s 0, s 5, s 8, s 9, s 10] w)) (N' := (fun s w => B1 [s 0, s 5, s 8, s 9, s 10] w)) (X := (fun i => (bif Nat.beq i 0 then (fun s w => s101_p1 K (s 0) (s 5) w) else (fun _ _ => False)))) (X' := (fun i => (bif Nat.beq i 0 then (s101_p1_den K) else (fun _ _ => False)))) (R := s101_R K) (s := s) (w := w) (p := s101_p2 K B1 (s 0) (s 5) (s 8) (s 9) (s 10) w) (q := s101_p2_den K (fun s w => B1 [s 0, s 5, s 8, s 9, s 10] w) s w) tr_id (fun i => (tr_bif (fun s w h => s101_p1_ok K s w @h) tr_id)) (by kernel_rfl) (by kernel_rfl) @h
def s101_p3_d (K : Value → World → Prop) (B1 : List Value → World → Prop) (t0 t5 t7 t8 t9 t10 : Value) (w0 w : World) : Prop :=
  fd 0 t7 (fun t20 _ =>
  ld1 t20 (fun t21 _ =>
  fd 1 t7 (fun t24 _ =>
  ld1 t24 (fun t25 _ =>
  (Below w0.heap.size w0 w ∧
  cl Tryz.prog 56 #[t21] (fun t22 w =>
  Below w0.heap.size w0 w ∧
  (boS .add t22 (.string ⟨#[64]⟩) (fun t23 w =>
  Below w0.heap.size w0 w ∧
  cl Tryz.prog 56 #[t25] (fun t26 w =>
  boS .add t23 t26 (fun t27 w =>
  boS .add t5 t27 (fun t28 w =>
  s101_p2 K B1 t0 t28 t8 t9 t10 w) w) w) w) w) ∧
  (cl Tryz.prog 56 #[t25] (fun t26_2 w =>
  boS .add t22 (.string ⟨#[64]⟩) (fun t23_2 w =>
  Below w0.heap.size w0 w ∧
  boS .add t23_2 t26_2 (fun t27_2 w =>
  boS .add t5 t27_2 (fun t28_2 w =>
  s101_p2 K B1 t0 t28_2 t8 t9 t10 w) w) w) w) w)) w) ∧
  (cl Tryz.prog 56 #[t21] (fun t22_2 w =>
  Below w0.heap.size w0 w ∧
  (Below w0.heap.size w0 w ∧
  (boS .add t22_2 (.string ⟨#[64]⟩) (fun t23_3 w =>
  Below w0.heap.size w0 w ∧
  cl Tryz.prog 56 #[t25] (fun t26_3 w =>
  boS .add t23_3 t26_3 (fun t27_3 w =>
  boS .add t5 t27_3 (fun t28_3 w =>
  s101_p2 K B1 t0 t28_3 t8 t9 t10 w) w) w) w) w) ∧
  (cl Tryz.prog 56 #[t25] (fun t26_4 w =>
  boS .add t22_2 (.string ⟨#[64]⟩) (fun t23_4 w =>
  Below w0.heap.size w0 w ∧
  boS .add t23_4 t26_4 (fun t27_4 w =>
  boS .add t5 t27_4 (fun t28_4 w =>
  s101_p2 K B1 t0 t28_4 t8 t9 t10 w) w) w) w) w)) ∧
  (boS .add t22_2 (.string ⟨#[64]⟩) (fun t23_5 w =>
  Below w0.heap.size w0 w ∧
  (Below w0.heap.size w0 w ∧
  cl Tryz.prog 56 #[t25] (fun t26_5 w =>
  boS .add t23_5 t26_5 (fun t27_5 w =>
  boS .add t5 t27_5 (fun t28_5 w =>
  s101_p2 K B1 t0 t28_5 t8 t9 t10 w) w) w) w) ∧
  (cl Tryz.prog 56 #[t25] (fun t26_6 w =>
  (Below w0.heap.size w0 w ∧
  boS .add t23_5 t26_6 (fun t27_6 w =>
  boS .add t5 t27_6 (fun t28_6 w =>
  s101_p2 K B1 t0 t28_6 t8 t9 t10 w) w) w) ∧
  (boS .add t23_5 t26_6 (fun t27_7 w =>
  Below w0.heap.size w0 w ∧
  boS .add t5 t27_7 (fun t28_7 w =>
  s101_p2 K B1 t0 t28_7 t8 t9 t10 w) w) w)) w)) w) ∧
  (cl Tryz.prog 56 #[t25] (fun t26_7 w =>
  (Below w0.heap.size w0 w ∧
  boS .add t22_2 (.string ⟨#[64]⟩) (fun t23_6 w =>
  Below w0.heap.size w0 w ∧
  boS .add t23_6 t26_7 (fun t27_8 w =>
  boS .add t5 t27_8 (fun t28_8 w =>
  s101_p2 K B1 t0 t28_8 t8 t9 t10 w) w) w) w) ∧
  (boS .add t22_2 (.string ⟨#[64]⟩) (fun t23_7 w =>
  Below w0.heap.size w0 w ∧
  (Below w0.heap.size w0 w ∧
  boS .add t23_7 t26_7 (fun t27_9 w =>
  boS .add t5 t27_9 (fun t28_9 w =>
  s101_p2 K B1 t0 t28_9 t8 t9 t10 w) w) w) ∧
  (boS .add t23_7 t26_7 (fun t27_10 w =>
  Below w0.heap.size w0 w ∧
  boS .add t5 t27_10 (fun t28_10 w =>
  s101_p2 K B1 t0 t28_10 t8 t9 t10 w) w) w)) w)) w)) w)) w0) w0) w0) w0
def s101_p3 (K : Value → World → Prop) (B1 : List Value → World → Prop) (t0 t5 t7 t8 t9 t10 : Value) (w : World) : Prop := s101_p3_d K B1 t0 t5 t7 t8 t9 t10 (drw w) (drw w)
def s101_p3_den (K : Value → World → Prop) (M1 : (Nat → Value) → World → Prop) : (Nat → Value) → World → Prop := denL Tryz.prog [(cd (Tryz.f101.body.getD .skip) [1, 1, 0, 1, 0, 0, 1, 1, 0, 0, 1, 1])] (s101_p2_den K M1) (fun i => (bif Nat.beq i 1 then (s101_p2_den K M1) else (bif Nat.beq i 0 then (s101_p1_den K) else (fun _ _ => False)))) (s101_R K)
theorem s101_p3_ok (K : Value → World → Prop) (B1 : List Value → World → Prop) (s : Nat → Value) (w : World) (h : s101_p3 K B1 (s 0) (s 5) (s 7) (s 8) (s 9) (s 10) w) : Tr (s101_p3_den K (fun s w => B1 [s 0, s 5, s 8, s 9, s 10] w) s w) :=
  tr_draw (P := Tryz.prog) (ops := (ro (cd (Tryz.f101.body.getD .skip) [1, 1, 0, 1, 0, 0, 1, 1, 0, 0, 1, 1]))) (ms := [0, 0, 2, 6, 14, 0, 32, 110, 254, 511, 1023]) (cs := [1, 2, 5, 6]) (N := (fun s w => s101_p2 K B1 (s 0) (s 5) (s 8) (s 9) (s 10) w)) (N' := (s101_p2_den K (fun s w => B1 [s 0, s 5, s 8, s 9, s 10] w))) (s := s) (w := w) (p := s101_p3 K B1 (s 0) (s 5) (s 7) (s 8) (s 9) (s 10) w) (q := s101_p3_den K (fun s w => B1 [s 0, s 5, s 8, s 9, s 10] w) s w) (by kernel_rfl) (by kernel_rfl) (fun s w h => s101_p2_ok K B1 s w @h) (by kernel_rfl) (by kernel_rfl) @h
def s101_p4 (K : Value → World → Prop) (B1 : List Value → World → Prop) (t0 t5 t8 t9 t10 : Value) (w : World) : Prop :=
  ixs 2 t8 t10 (fun t13 w =>
  ldn 2 t13 (fun t14 w =>
  nw 116 #[(.int .i64 0), (.int .i64 0)] (fun t7 w =>
  stn 2 t7 t14 (fun w =>
  boI .gtr t10 (.int .i64 0) (fun t16 w =>
  ifb t16
  (boS .add t5 (.string ⟨#[32]⟩) (fun t18 w =>
  s101_p3 K B1 t0 t18 t7 t8 t9 t10 w) w)
  (s101_p3 K B1 t0 t5 t7 t8 t9 t10 w)) w) w) w) w) w
def s101_p4_den (K : Value → World → Prop) (M1 : (Nat → Value) → World → Prop) : (Nat → Value) → World → Prop := denL Tryz.prog [(cd (Tryz.f101.body.getD .skip) [1, 1, 0, 1, 0, 0, 1, 1, 0, 0, 0]), (cd (Tryz.f101.body.getD .skip) [1, 1, 0, 1, 0, 0, 1, 1, 0, 0, 1, 0, 0]), (cd (Tryz.f101.body.getD .skip) [1, 1, 0, 1, 0, 0, 1, 1, 0, 0, 1, 0, 1])] (s101_p3_den K M1) (fun i => (bif Nat.beq i 1 then (s101_p2_den K M1) else (bif Nat.beq i 0 then (s101_p1_den K) else (fun _ _ => False)))) (s101_R K)
theorem s101_p4_ok (K : Value → World → Prop) (B1 : List Value → World → Prop) (s : Nat → Value) (w : World) (h : s101_p4 K B1 (s 0) (s 5) (s 8) (s 9) (s 10) w) : Tr (s101_p4_den K (fun s w => B1 [s 0, s 5, s 8, s 9, s 10] w) s w) :=
  tr_simple (P := Tryz.prog) (codes := [(cd (Tryz.f101.body.getD .skip) [1, 1, 0, 1, 0, 0, 1, 1, 0, 0, 0]), (cd (Tryz.f101.body.getD .skip) [1, 1, 0, 1, 0, 0, 1, 1, 0, 0, 1, 0, 0]), (cd (Tryz.f101.body.getD .skip) [1, 1, 0, 1, 0, 0, 1, 1, 0, 0, 1, 0, 1])]) (N := (fun s w => s101_p3 K B1 (s 0) (s 5) (s 7) (s 8) (s 9) (s 10) w)) (N' := (s101_p3_den K (fun s w => B1 [s 0, s 5, s 8, s 9, s 10] w))) (X := (fun i => (bif Nat.beq i 1 then (fun s w => s101_p2 K B1 (s 0) (s 5) (s 8) (s 9) (s 10) w) else (bif Nat.beq i 0 then (fun s w => s101_p1 K (s 0) (s 5) w) else (fun _ _ => False))))) (X' := (fun i => (bif Nat.beq i 1 then (s101_p2_den K (fun s w => B1 [s 0, s 5, s 8, s 9, s 10] w)) else (bif Nat.beq i 0 then (s101_p1_den K) else (fun _ _ => False))))) (R := s101_R K) (s := s) (w := w) (p := s101_p4 K B1 (s 0) (s 5) (s 8) (s 9) (s 10) w) (q := s101_p4_den K (fun s w => B1 [s 0, s 5, s 8, s 9, s 10] w) s w) (fun s w h => s101_p3_ok K B1 s w @h) (fun i => (tr_bif (fun s w h => s101_p2_ok K B1 s w @h) (tr_bif (fun s w h => s101_p1_ok K s w @h) tr_id))) (by kernel_rfl) (by kernel_rfl) @h
def s101_p5 (K : Value → World → Prop) (B1 : List Value → World → Prop) (t0 t5 t8 t9 t10 : Value) (w : World) : Prop :=
  boI .lss t10 t9 (fun t11 w =>
  ifb t11
  (s101_p4 K B1 t0 t5 t8 t9 t10 w)
  (s101_p1 K t0 t5 w)) w
def s101_p5_den (K : Value → World → Prop) (M1 : (Nat → Value) → World → Prop) : (Nat → Value) → World → Prop := denL Tryz.prog [(cd (Tryz.f101.body.getD .skip) [1, 1, 0, 1, 0, 0, 0]), (cd (Tryz.f101.body.getD .skip) [1, 1, 0, 1, 0, 0, 1, 0])] (s101_p4_den K M1) (fun i => (bif Nat.beq i 0 then (s101_p1_den K) else (fun _ _ => False))) (s101_R K)
theorem s101_p5_ok (K : Value → World → Prop) (B1 : List Value → World → Prop) (s : Nat → Value) (w : World) (h : s101_p5 K B1 (s 0) (s 5) (s 8) (s 9) (s 10) w) : Tr (s101_p5_den K (fun s w => B1 [s 0, s 5, s 8, s 9, s 10] w) s w) :=
  tr_simple (P := Tryz.prog) (codes := [(cd (Tryz.f101.body.getD .skip) [1, 1, 0, 1, 0, 0, 0]), (cd (Tryz.f101.body.getD .skip) [1, 1, 0, 1, 0, 0, 1, 0])]) (N := (fun s w => s101_p4 K B1 (s 0) (s 5) (s 8) (s 9) (s 10) w)) (N' := (s101_p4_den K (fun s w => B1 [s 0, s 5, s 8, s 9, s 10] w))) (X := (fun i => (bif Nat.beq i 0 then (fun s w => s101_p1 K (s 0) (s 5) w) else (fun _ _ => False)))) (X' := (fun i => (bif Nat.beq i 0 then (s101_p1_den K) else (fun _ _ => False)))) (R := s101_R K) (s := s) (w := w) (p := s101_p5 K B1 (s 0) (s 5) (s 8) (s 9) (s 10) w) (q := s101_p5_den K (fun s w => B1 [s 0, s 5, s 8, s 9, s 10] w) s w) (fun s w h => s101_p4_ok K B1 s w @h) (fun i => (tr_bif (fun s w h => s101_p1_ok K s w @h) tr_id)) (by kernel_rfl) (by kernel_rfl) @h
def s101_p6_F (K : Value → World → Prop) (B1 : List Value → World → Prop) (l : List Value) (w : World) : Prop :=
  match l with
  | [t0, t5, t8, t9, t10] => s101_p5 K B1 t0 t5 t8 t9 t10 w
  | _ => False
theorem s101_p6_Fe {K : Value → World → Prop} {B1 : List Value → World → Prop} {t0 t5 t8 t9 t10 : Value} {w : World} : s101_p6_F K B1 [t0, t5, t8, t9, t10] w = s101_p5 K B1 t0 t5 t8 t9 t10 w := by kernel_rfl
def s101_p6 (K : Value → World → Prop) (t0 t5 t8 t9 t10 : Value) (w : World) : Prop :=
  LoopL (s101_p6_F K) [t0, t5, t8, t9, t10] w
def s101_p6_den (K : Value → World → Prop) : (Nat → Value) → World → Prop := fun s w => LoopP (fun M1 s w => s101_p5_den K M1 s w) s w
theorem s101_p6_ok (K : Value → World → Prop) (s : Nat → Value) (w : World) (h : s101_p6 K (s 0) (s 5) (s 8) (s 9) (s 10) w) : Tr (s101_p6_den K s w) :=
  tr_loop (G := fun N' s w => s101_p5_den K N' s w) (F := s101_p6_F K) (sel := fun s => [s 0, s 5, s 8, s 9, s 10]) (s := s) (w := w) (p := s101_p6 K (s 0) (s 5) (s 8) (s 9) (s 10) w) (q := s101_p6_den K s w) (fun B s w h => s101_p5_ok K B s w @h) (by kernel_rfl) (by kernel_rfl) @h
def s101_p7 (K : Value → World → Prop) (t0 t1 : Value) (w : World) : Prop :=
  lnS t1 (fun t9 w =>
  s101_p6 K t0 (.string ⟨#[91]⟩) t1 t9 (.int .i64 0) w) w
def s101_p7_den (K : Value → World → Prop) : (Nat → Value) → World → Prop := denL Tryz.prog [(cd (Tryz.f101.body.getD .skip) [0]), (cd (Tryz.f101.body.getD .skip) [1, 0]), (cd (Tryz.f101.body.getD .skip) [1, 1, 0, 0])] (s101_p6_den K) (fun i => (fun _ _ => False)) (s101_R K)
theorem s101_p7_ok (K : Value → World → Prop) (s : Nat → Value) (w : World) (h : s101_p7 K (s 0) (s 1) w) : Tr (s101_p7_den K s w) :=
  tr_simple (P := Tryz.prog) (codes := [(cd (Tryz.f101.body.getD .skip) [0]), (cd (Tryz.f101.body.getD .skip) [1, 0]), (cd (Tryz.f101.body.getD .skip) [1, 1, 0, 0])]) (N := (fun s w => s101_p6 K (s 0) (s 5) (s 8) (s 9) (s 10) w)) (N' := (s101_p6_den K)) (X := (fun i => (fun _ _ => False))) (X' := (fun i => (fun _ _ => False))) (R := s101_R K) (s := s) (w := w) (p := s101_p7 K (s 0) (s 1) w) (q := s101_p7_den K s w) (fun s w h => s101_p6_ok K s w @h) (fun i => tr_id) (by kernel_rfl) (by kernel_rfl) @h
/-- the call, from the text -/
theorem c101 (t0 t1 : Value) {K : Value → World → Prop} {w : World} (h : s101_p7 K t0 t1 w) : cl Tryz.prog 101 #[t0, t1] K w :=
  calls_of_tr (c := (Tryz.f101.body.getD .skip)) (fn := Tryz.f101) (q := s101_p7_den K (st0 #[t0, t1]) w) Tryz.func101 (by kernel_rfl) (by kernel_rfl) (Nat.le_of_ble_eq_true (by kernel_rfl)) (by kernel_rfl) (by kernel_rfl) (s101_p7_ok K (st0 #[t0, t1]) w @h)

/-! ### function 93 : (*e2e.engine.text).String -/
def s93_R (K : Value → World → Prop) (s : Nat → Value) (w : World) : Prop := retv Tryz.prog s Tryz.f93.results.toList (fun vs => K (pack vs) w) w
def s93_p1 (K : Value → World → Prop) (t0 : Value) (w : World) : Prop :=
  nck t0 (fun t4 w =>
  fd 0 t4 (fun t5 w =>
  ld1 t5 (fun t6 w =>
  rs Tryz.prog (convert 35 9 t6) (fun t7 w =>
  K t7 w) w) w) w) w
def s93_p1_den (K : Value → World → Prop) : (Nat → Value) → World → Prop := denL Tryz.prog [(cd (Tryz.f93.body.getD .skip) [0]), (cd (Tryz.f93.body.getD .skip) [1, 0]), (cd (Tryz.f93.body.getD .skip) [1, 1])] (fun _ _ => False) (fun i => (fun _ _ => False)) (s93_R K)
theorem s93_p1_ok (K : Value → World → Prop) (s : Nat → Value) (w : World) (h : s93_p1 K (s 0) w) : Tr (s93_p1_den K s w) :=
  tr_simple (P := Tryz.prog) (codes := [(cd (Tryz.f93.body.getD .skip) [0]), (cd (Tryz.f93.body.getD .skip) [1, 0]), (cd (Tryz.f93.body.getD .skip) [1, 1])]) (N := (fun _ _ => False)) (N' := (fun _ _ => False)) (X := (fun i => (fun _ _ => False))) (X' := (fun i => (fun _ _ => False))) (R := s93_R K) (s := s) (w := w) (p := s93_p1 K (s 0) w) (q := s93_p1_den K s w) tr_id (fun i => tr_id) (by kernel_rfl) (by kernel_rfl) @h
/-- the call, from the text -/
theorem c93 (t0 : Value) {K : Value → World → Prop} {w : World} (h : s93_p1 K t0 w) : cl Tryz.prog 93 #[t0] K w :=
  calls_of_tr (c := (Tryz.f93.body.getD .skip)) (fn := Tryz.f93) (q := s93_p1_den K (st0 #[t0]) w) Tryz.func93 (by kernel_rfl) (by kernel_rfl) (Nat.le_of_ble_eq_true (by kernel_rfl)) (by kernel_rfl) (by kernel_rfl) (s93_p1_ok K (st0 #[t0]) w @h)

/-! ### function 69 : e2e.engine.FormatRequest -/
def s69_R (K : Value → World → Prop) (s : Nat → Value) (w : World) : Prop := retv Tryz.prog s Tryz.f69.results.toList (fun vs => K (pack vs) w) w
def s69_p1 (K : Value → World → Prop) (t3 : Value) (w : World) : Prop :=
  cl Tryz.prog 93 #[t3] (fun t99 w =>
  K t99 w) w
def s69_p1_den (K : Value → World → Prop) : (Nat → Value) → World → Prop := denL Tryz.prog [(cd (Tryz.f69.body.getD .skip) [1, 1, 1, 1, 0]), (cd (Tryz.f69.body.getD .skip) [1, 1, 1, 1, 1])] (fun _ _ => False) (fun i => (fun _ _ => False)) (s69_R K)
theorem s69_p1_ok (K : Value → World → Prop) (s : Nat → Value) (w : World) (h : s69_p1 K (s 3) w) : Tr (s69_p1_den K s w) :=
  tr_simple (P := Tryz.prog) (codes := [(cd (Tryz.f69.body.getD .skip) [1, 1, 1, 1, 0]), (cd (Tryz.f69.body.getD .skip) [1, 1, 1, 1, 1])]) (N := (fun _ _ => False)) (N' := (fun _ _ => False)) (X := (fun i => (fun _ _ => False))) (X' := (fun i => (fun _ _ => False))) (R := s69_R K) (s := s) (w := w) (p := s69_p1 K (s 3) w) (q := s69_p1_den K s w) tr_id (fun i => tr_id) (by kernel_rfl) (by kernel_rfl) @h
def s69_p2_d (K : Value → World → Prop) (J : World → Prop) (t1 t3 : Value) (w0 w : World) : Prop :=
  fd 4 t1 (fun t17 _ =>
  Go.Sh.R.qw J (ld1 t17) (fun t18 =>
  fd 5 t1 (fun t20 _ =>
  Go.Sh.R.qw J (ld1 t20) (fun t21 =>
  fd 7 t1 (fun t23 _ =>
  Go.Sh.R.qw J (ld1 t23) (fun t24 =>
  cl Tryz.prog 92 #[t3, (.string ⟨#[99, 108, 97, 115, 115]⟩), t18] (fun t19 w =>
  J w ∧
  cl Tryz.prog 92 #[t19, (.string ⟨#[115, 105, 122, 101]⟩), t21] (fun t22 w =>
  J w ∧
  cl Tryz.prog 101 #[t22, t24] (fun t25 w =>
  s69_p1 K t3 w) w) w) w)) w0)) w0)) w0
def s69_p2 (K : Value → World → Prop) (t1 t3 : Value) (w : World) : Prop := ∃ J : World → Prop, J (drw w) ∧ s69_p2_d K J t1 t3 (drw w) (drw w)
def s69_p2_den (K : Value → World → Prop) : (Nat → Value) → World → Prop := denL Tryz.prog [(cd (Tryz.f69.body.getD .skip) [1, 1, 1, 0, 1, 0, 1, 0])] (s69_p1_den K) (fun i => (bif Nat.beq i 0 then (s69_p1_den K) else (fun _ _ => False))) (s69_R K)
theorem s69_p2_ok (K : Value → World → Prop) (s : Nat → Value) (w : World) (h : s69_p2 K (s 1) (s 3) w) : Tr (s69_p2_den K s w) :=
  Go.Sh.R.tr_drawR (P := Tryz.prog) (ops := (ro (cd (Tryz.f69.body.getD .skip) [1, 1, 1, 0, 1, 0, 1, 0]))) (ms := [0, 0, 2, 7, 0, 16, 63, 0, 128, 511]) (cs := [0, 1, 2, 4, 5, 7, 8]) (N := (fun s w => s69_p1 K (s 3) w)) (N' := (s69_p1_den K)) (s := s) (w := w) (p := fun J => s69_p2_d K J (s 1) (s 3) (drw w) (drw w)) (q := s69_p2_den K s w) (by kernel_rfl) (by kernel_rfl) (fun s w h => s69_p1_ok K s w @h) (by kernel_rfl) (by kernel_rfl) @h
def s69_p3_d (K : Value → World → Prop) (J : World → Prop) (t1 t3 : Value) (w0 w : World) : Prop :=
  fd 1 t1 (fun t29 _ =>
  Go.Sh.R.qw J (ld1 t29) (fun t30 =>
  fd 7 t1 (fun t32 _ =>
  Go.Sh.R.qw J (ld1 t32) (fun t33 =>
  cl Tryz.prog 92 #[t3, (.string ⟨#[105, 100]⟩), t30] (fun t31 w =>
  J w ∧
  cl Tryz.prog 101 #[t31, t33] (fun t34 w =>
  s69_p1 K t3 w) w) w)) w0)) w0
def s69_p3 (K : Value → World → Prop) (t1 t3 : Value) (w : World) : Prop := ∃ J : World → Prop, J (drw w) ∧ s69_p3_d K J t1 t3 (drw w) (drw w)
def s69_p3_den (K : Value → World → Prop) : (Nat → Value) → World → Prop := denL Tryz.prog [(cd (Tryz.f69.body.getD .skip) [1, 1, 1, 0, 1, 0, 1, 1, 1, 0])] (s69_p1_den K) (fun i => (bif Nat.beq i 0 then (s69_p1_den K) else (fun _ _ => False))) (s69_R K)
theorem s69_p3_ok (K : Value → World → Prop) (s : Nat → Value) (w : World) (h : s69_p3 K (s 1) (s 3) w) : Tr (s69_p3_den K s w) :=
  Go.Sh.R.tr_drawR (P := Tryz.prog) (ops := (ro (cd (Tryz.f69.body.getD .skip) [1, 1, 1, 0, 1, 0, 1, 1, 1, 0]))) (ms := [0, 0, 2, 7, 0, 16, 63]) (cs := [0, 1, 2, 4, 5]) (N := (fun s w => s69_p1 K (s 3) w)) (N' := (s69_p1_den K)) (s := s) (w := w) (p := fun J => s69_p3_d K J (s 1) (s 3) (drw w) (drw w)) (q := s69_p3_den K s w) (by kernel_rfl) (by kernel_rfl) (fun s w h => s69_p1_ok K s w @h) (by kernel_rfl) (by kernel_rfl) @h
def s69_p4_d (K : Value → World → Prop) (J : World → Prop) (t1 t3 : Value) (w0 w : World) : Prop :=
  fd 2 t1 (fun t38 _ =>
  Go.Sh.R.qw J (ld1 t38) (fun t39 =>
  fd 4 t1 (fun t41 _ =>
  Go.Sh.R.qw J (ld1 t41) (fun t42 =>
  fd 5 t1 (fun t44 _ =>
  Go.Sh.R.qw J (ld1 t44) (fun t45 =>
  cl Tryz.prog 92 #[t3, (.string ⟨#[97, 116, 116, 114, 97, 99, 116, 105, 111, 110]⟩), t39] (fun t40 w =>
  J w ∧
  cl Tryz.prog 92 #[t40, (.string ⟨#[99, 108, 97, 115, 115]⟩), t42] (fun t43 w =>
  J w ∧
  cl Tryz.prog 92 #[t43, (.string ⟨#[115, 105, 122, 101]⟩), t45] (fun t46 w =>
  s69_p1 K t3 w) w) w) w)) w0)) w0)) w0
def s69_p4 (K : Value → World → Prop) (t1 t3 : Value) (w : World) : Prop := ∃ J : World → Prop, J (drw w) ∧ s69_p4_d K J t1 t3 (drw w) (drw w)
def s69_p4_den (K : Value → World → Prop) : (Nat → Value) → World → Prop := denL Tryz.prog [(cd (Tryz.f69.body.getD .skip) [1, 1, 1, 0, 1, 0, 1, 1, 1, 1, 1, 0])] (s69_p1_den K) (fun i => (bif Nat.beq i 0 then (s69_p1_den K) else (fun _ _ => False))) (s69_R K)
theorem s69_p4_ok (K : Value → World → Prop) (s : Nat → Value) (w : World) (h : s69_p4 K (s 1) (s 3) w) : Tr (s69_p4_den K s w) :=
  Go.Sh.R.tr_drawR (P := Tryz.prog) (ops := (ro (cd (Tryz.f69.body.getD .skip) [1, 1, 1, 0, 1, 0, 1, 1, 1, 1, 1, 0]))) (ms := [0, 0, 2, 7, 0, 16, 63, 0, 128, 511]) (cs := [0, 1, 2, 4, 5, 7, 8]) (N := (fun s w => s69_p1 K (s 3) w)) (N' := (s69_p1_den K)) (s := s) (w := w) (p := fun J => s69_p4_d K J (s 1) (s 3) (drw w) (drw w)) (q := s69_p4_den K s w) (by kernel_rfl) (by kernel_rfl) (fun s w h => s69_p1_ok K s w @h) (by kernel_rfl) (by kernel_rfl) @h
def s69_p5 (K : Value → World → Prop) (t1 t3 : Value) (w : World) : Prop :=
  fd 1 t1 (fun t56 w =>
  ld1 t56 (fun t57 w =>
  cl Tryz.prog 92 #[t3, (.string ⟨#[105, 100]⟩), t57] (fun t58 w =>
  s69_p1 K t3 w) w) w) w
def s69_p5_den (K : Value → World → Prop) : (Nat → Value) → World → Prop := denL Tryz.prog [(cd (Tryz.f69.body.getD .skip) [1, 1, 1, 0, 1, 0, 1, 1, 1, 1, 1, 1, 1, 0])] (s69_p1_den K) (fun i => (bif Nat.beq i 0 then (s69_p1_den K) else (fun _ _ => False))) (s69_R K)
theorem s69_p5_ok (K : Value → World → Prop) (s : Nat → Value) (w : World) (h : s69_p5 K (s 1) (s 3) w) : Tr (s69_p5_den K s w) :=
  tr_simple (P := Tryz.prog) (codes := [(cd (Tryz.f69.body.getD .skip) [1, 1, 1, 0, 1, 0, 1, 1, 1, 1, 1, 1, 1, 0])]) (N := (fun s w => s69_p1 K (s 3) w)) (N' := (s69_p1_den K)) (X := (fun i => (bif Nat.beq i 0 then (fun s w => s69_p1 K (s 3) w) else (fun _ _ => False)))) (X' := (fun i => (bif Nat.beq i 0 then (s69_p1_den K) else (fun _ _ => False)))) (R := s69_R K) (s := s) (w := w) (p := s69_p5 K (s 1) (s 3) w) (q := s69_p5_den K s w) (fun s w h => s69_p1_ok K s w @h) (fun i => (tr_bif (fun s w h => s69_p1_ok K s w @h) tr_id)) (by kernel_rfl) (by kernel_rfl) @h
def s69_p6_d (K : Value → World → Prop) (J : World → Prop) (t1 t3 : Value) (w0 w : World) : Prop :=
  fd 1 t1 (fun t62 _ =>
  Go.Sh.R.qw J (ld1 t62) (fun t63 =>
  fd 6 t1 (fun t65 _ =>
  Go.Sh.R.qw J (ld1 t65) (fun t66 =>
  cl Tryz.prog 92 #[t3, (.string ⟨#[102, 114, 111, 109]⟩), t63] (fun t64 w =>
  J w ∧
  cl Tryz.prog 92 #[t64, (.string ⟨#[108, 105, 109, 105, 116]⟩), t66] (fun t67 w =>
  s69_p1 K t3 w) w) w)) w0)) w0
def s69_p6 (K : Value → World → Prop) (t1 t3 : Value) (w : World) : Prop := ∃ J : World → Prop, J (drw w) ∧ s69_p6_d K J t1 t3 (drw w) (drw w)
def s69_p6_den (K : Value → World → Prop) : (Nat → Value) → World → Prop := denL Tryz.prog [(cd (Tryz.f69.body.getD .skip) [1, 1, 1, 0, 1, 0, 1, 1, 1, 1, 1, 1, 1, 1, 1, 0])] (s69_p1_den K) (fun i => (bif Nat.beq i 0 then (s69_p1_den K) else (fun _ _ => False))) (s69_R K)
theorem s69_p6_ok (K : Value → World → Prop) (s : Nat → Value) (w : World) (h : s69_p6 K (s 1) (s 3) w) : Tr (s69_p6_den K s w) :=
  Go.Sh.R.tr_drawR (P := Tryz.prog) (ops := (ro (cd (Tryz.f69.body.getD .skip) [1, 1, 1, 0, 1, 0, 1, 1, 1, 1, 1, 1, 1, 1, 1, 0]))) (ms := [0, 0, 2, 7, 0, 16, 63]) (cs := [0, 1, 2, 4, 5]) (N := (fun s w => s69_p1 K (s 3) w)) (N' := (s69_p1_den K)) (s := s) (w := w) (p := fun J => s69_p6_d K J (s 1) (s 3) (drw w) (drw w)) (q := s69_p6_den K s w) (by kernel_rfl) (by kernel_rfl) (fun s w h => s69_p1_ok K s w @h) (by kernel_rfl) (by kernel_rfl) @h
def s69_p7_d (K : Value → World → Prop) (J : World → Prop) (t1 t3 : Value) (w0 w : World) : Prop :=
  fd 2 t1 (fun t71 _ =>
  Go.Sh.R.qw J (ld1 t71) (fun t72 =>
  fd 3 t1 (fun t74 _ =>
  Go.Sh.R.qw J (ld1 t74) (fun t75 =>
  cl Tryz.prog 92 #[t3, (.string ⟨#[97, 116, 116, 114, 97, 99, 116, 105, 111, 110]⟩), t72] (fun t73 w =>
  J w ∧
  cl Tryz.prog 92 #[t73, (.string ⟨#[115, 108, 111, 116]⟩), t75] (fun t76 w =>
  s69_p1 K t3 w) w) w)) w0)) w0
def s69_p7 (K : Value → World → Prop) (t1 t3 : Value) (w : World) : Prop := ∃ J : World → Prop, J (drw w) ∧ s69_p7_d K J t1 t3 (drw w) (drw w)
def s69_p7_den (K : Value → World → Prop) : (Nat → Value) → World → Prop := denL Tryz.prog [(cd (Tryz.f69.body.getD .skip) [1, 1, 1, 0, 1, 0, 1, 1, 1, 1, 1, 1, 1, 1, 1, 1, 1, 0])] (s69_p1_den K) (fun i => (bif Nat.beq i 0 then (s69_p1_den K) else (fun _ _ => False))) (s69_R K)
theorem s69_p7_ok (K : Value → World → Prop) (s : Nat → Value) (w : World) (h : s69_p7 K (s 1) (s 3) w) : Tr (s69_p7_den K s w) :=
  Go.Sh.R.tr_drawR (P := Tryz.prog) (ops := (ro (cd (Tryz.f69.body.getD .skip) [1, 1, 1, 0, 1, 0, 1, 1, 1, 1, 1, 1, 1, 1, 1, 1, 1, 0]))) (ms := [0, 0, 2, 7, 0, 16, 63]) (cs := [0, 1, 2, 4, 5]) (N := (fun s w => s69_p1 K (s 3) w)) (N' := (s69_p1_den K)) (s := s) (w := w) (p := fun J => s69_p7_d K J (s 1) (s 3) (drw w) (drw w)) (q := s69_p7_den K s w) (by kernel_rfl) (by kernel_rfl) (fun s w h => s69_p1_ok K s w @h) (by kernel_rfl) (by kernel_rfl) @h
def s69_p8 (K : Value → World → Prop) (t1 t3 : Value) (w : World) : Prop :=
  fd 2 t1 (fun t80 w =>
  ld1 t80 (fun t81 w =>
  cl Tryz.prog 92 #[t3, (.string ⟨#[97, 116, 116, 114, 97, 99, 116, 105, 111, 110]⟩), t81] (fun t82 w =>
  s69_p1 K t3 w) w) w) w
def s69_p8_den (K : Value → World → Prop) : (Nat → Value) → World → Prop := denL Tryz.prog [(cd (Tryz.f69.body.getD .skip) [1, 1, 1, 0, 1, 0, 1, 1, 1, 1, 1, 1, 1, 1, 1, 1, 1, 1, 1, 0])] (s69_p1_den K) (fun i => (bif Nat.beq i 0 then (s69_p1_den K) else (fun _ _ => False))) (s69_R K)
theorem s69_p8_ok (K : Value → World → Prop) (s : Nat → Value) (w : World) (h : s69_p8 K (s 1) (s 3) w) : Tr (s69_p8_den K s w) :=
  tr_simple (P := Tryz.prog) (codes := [(cd (Tryz.f69.body.getD .skip) [1, 1, 1, 0, 1, 0, 1, 1, 1, 1, 1, 1, 1, 1, 1, 1, 1, 1, 1, 0])]) (N := (fun s w => s69_p1 K (s 3) w)) (N' := (s69_p1_den K)) (X := (fun i => (bif Nat.beq i 0 then (fun s w => s69_p1 K (s 3) w) else (fun _ _ => False)))) (X' := (fun i => (bif Nat.beq i 0 then (s69_p1_den K) else (fun _ _ => False)))) (R := s69_R K) (s := s) (w := w) (p := s69_p8 K (s 1) (s 3) w) (q := s69_p8_den K s w) (fun s w h => s69_p1_ok K s w @h) (fun i => (tr_bif (fun s w h => s69_p1_ok K s w @h) tr_id)) (by kernel_rfl) (by kernel_rfl) @h
def s69_p9_d (K : Value → World → Prop) (J : World → Prop) (t1 t3 : Value) (w0 w : World) : Prop :=
  fd 2 t1 (fun t86 _ =>
  Go.Sh.R.qw J (ld1 t86) (fun t87 =>
  fd 4 t1 (fun t89 _ =>
  Go.Sh.R.qw J (ld1 t89) (fun t90 =>
  fd 5 t1 (fun t92 _ =>
  Go.Sh.R.qw J (ld1 t92) (fun t93 =>
  fd 3 t1 (fun t95 _ =>
  Go.Sh.R.qw J (ld1 t95) (fun t96 =>
  cl Tryz.prog 92 #[t3, (.string ⟨#[97, 116, 116, 114, 97, 99, 116, 105, 111, 110]⟩), t87] (fun t88 w =>
  J w ∧
  cl Tryz.prog 92 #[t88, (.string ⟨#[99, 108, 97, 115, 115]⟩), t90] (fun t91 w =>
  J w ∧
  cl Tryz.prog 92 #[t91, (.string ⟨#[115, 105, 122, 101]⟩), t93] (fun t94 w =>
  J w ∧
  cl Tryz.prog 92 #[t94, (.string ⟨#[102, 114, 111, 109]⟩), t96] (fun t97 w =>
  s69_p1 K t3 w) w) w) w) w)) w0)) w0)) w0)) w0
def s69_p9 (K : Value → World → Prop) (t1 t3 : Value) (w : World) : Prop := ∃ J : World → Prop, J (drw w) ∧ s69_p9_d K J t1 t3 (drw w) (drw w)
def s69_p9_den (K : Value → World → Prop) : (Nat → Value) → World → Prop := denL Tryz.prog [(cd (Tryz.f69.body.getD .skip) [1, 1, 1, 0, 1, 0, 1, 1, 1, 1, 1, 1, 1, 1, 1, 1, 1, 1, 1, 1, 1, 0])] (s69_p1_den K) (fun i => (bif Nat.beq i 0 then (s69_p1_den K) else (fun _ _ => False))) (s69_R K)
theorem s69_p9_ok (K : Value → World → Prop) (s : Nat → Value) (w : World) (h : s69_p9 K (s 1) (s 3) w) : Tr (s69_p9_den K s w) :=
  Go.Sh.R.tr_drawR (P := Tryz.prog) (ops := (ro (cd (Tryz.f69.body.getD .skip) [1, 1, 1, 0, 1, 0, 1, 1, 1, 1, 1, 1, 1, 1, 1, 1, 1, 1, 1, 1, 1, 0]))) (ms := [0, 0, 2, 7, 0, 16, 63, 0, 128, 511, 0, 1024, 4095]) (cs := [0, 1, 2, 4, 5, 7, 8, 10, 11]) (N := (fun s w => s69_p1 K (s 3) w)) (N' := (s69_p1_den K)) (s := s) (w := w) (p := fun J => s69_p9_d K J (s 1) (s 3) (drw w) (drw w)) (q := s69_p9_den K s w) (by kernel_rfl) (by kernel_rfl) (fun s w h => s69_p1_ok K s w @h) (by kernel_rfl) (by kernel_rfl) @h
def s69_p10 (K : Value → World → Prop) (t1 t3 t83 : Value) (w : World) : Prop :=
  ifb t83
  (s69_p9 K t1 t3 w)
  (s69_p1 K t3 w)
def s69_p10_den (K : Value → World → Prop) : (Nat → Value) → World → Prop := fun s w => ifb (ev s (.tmp 83)) ((s69_p9_den K) s w) ((s69_p1_den K) s w)
theorem s69_p10_ok (K : Value → World → Prop) (s : Nat → Value) (w : World) (h : s69_p10 K (s 1) (s 3) (s 83) w) : Tr (s69_p10_den K s w) :=
  tr_cond (v := ev s (.tmp 83)) (a := s69_p9 K (s 1) (s 3) w) (a' := s69_p9_den K s w) (b := s69_p1 K (s 3) w) (b' := s69_p1_den K s w) (p := s69_p10 K (s 1) (s 3) (s 83) w) (q := s69_p10_den K s w) (s69_p9_ok K s w) (s69_p1_ok K s w) (by kernel_rfl) (by kernel_rfl) @h
def s69_p11 (K : Value → World → Prop) (t1 t3 t12 : Value) (w : World) : Prop :=
  boI .eql t12 (.int .u8 21) (fun t84 w =>
  s69_p10 K t1 t3 t84 w) w
def s69_p11_den (K : Value → World → Prop) : (Nat → Value) → World → Prop := denL Tryz.prog [(cd (Tryz.f69.body.getD .skip) [1, 1, 1, 0, 1, 0, 1, 1, 1, 1, 1, 1, 1, 1, 1, 1, 1, 1, 1, 1, 0])] (s69_p10_den K) (fun i => (bif Nat.beq i 0 then (s69_p1_den K) else (fun _ _ => False))) (s69_R K)
theorem s69_p11_ok (K : Value → World → Prop) (s : Nat → Value) (w : World) (h : s69_p11 K (s 1) (s 3) (s 12) w) : Tr (s69_p11_den K s w) :=
  tr_simple (P := Tryz.prog) (codes := [(cd (Tryz.f69.body.getD .skip) [1, 1, 1, 0, 1, 0, 1, 1, 1, 1, 1, 1, 1, 1, 1, 1, 1, 1, 1, 1, 0])]) (N := (fun s w => s69_p10 K (s 1) (s 3) (s 83) w)) (N' := (s69_p10_den K)) (X := (fun i => (bif Nat.beq i 0 then (fun s w => s69_p1 K (s 3) w) else (fun _ _ => False)))) (X' := (fun i => (bif Nat.beq i 0 then (s69_p1_den K) else (fun _ _ => False)))) (R := s69_R K) (s := s) (w := w) (p := s69_p11 K (s 1) (s 3) (s 12) w) (q := s69_p11_den K s w) (fun s w h => s69_p10_ok K s w @h) (fun i => (tr_bif (fun s w h => s69_p1_ok K s w @h) tr_id)) (by kernel_rfl) (by kernel_rfl) @h
def s69_p12 (K : Value → World → Prop) (t1 t3 t12 t77 : Value) (w : World) : Prop :=
  ifb t77
  (s69_p8 K t1 t3 w)
  (s69_p11 K t1 t3 t12 w)
def s69_p12_den (K : Value → World → Prop) : (Nat → Value) → World → Prop := fun s w => ifb (ev s (.tmp 77)) ((s69_p8_den K) s w) ((s69_p11_den K) s w)
theorem s69_p12_ok (K : Value → World → Prop) (s : Nat → Value) (w : World) (h : s69_p12 K (s 1) (s 3) (s 12) (s 77) w) : Tr (s69_p12_den K s w) :=
  tr_cond (v := ev s (.tmp 77)) (a := s69_p8 K (s 1) (s 3) w) (a' := s69_p8_den K s w) (b := s69_p11 K (s 1) (s 3) (s 12) w) (b' := s69_p11_den K s w) (p := s69_p12 K (s 1) (s 3) (s 12) (s 77) w) (q := s69_p12_den K s w) (s69_p8_ok K s w) (s69_p11_ok K s w) (by kernel_rfl) (by kernel_rfl) @h
def s69_p13 (K : Value → World → Prop) (t1 t3 t12 : Value) (w : World) : Prop :=
  boI .eql t12 (.int .u8 19) (fun t78 w =>
  s69_p12 K t1 t3 t12 t78 w) w
def s69_p13_den (K : Value → World → Prop) : (Nat → Value) → World → Prop := denL Tryz.prog [(cd (Tryz.f69.body.getD .skip) [1, 1, 1, 0, 1, 0, 1, 1, 1, 1, 1, 1, 1, 1, 1, 1, 1, 1, 0])] (s69_p12_den K) (fun i => (bif Nat.beq i 0 then (s69_p1_den K) else (fun _ _ => False))) (s69_R K)
theorem s69_p13_ok (K : Value → World → Prop) (s : Nat → Value) (w : World) (h : s69_p13 K (s 1) (s 3) (s 12) w) : Tr (s69_p13_den K s w) :=
  tr_simple (P := Tryz.prog) (codes := [(cd (Tryz.f69.body.getD .skip) [1, 1, 1, 0, 1, 0, 1, 1, 1, 1, 1, 1, 1, 1, 1, 1, 1, 1, 0])]) (N := (fun s w => s69_p12 K (s 1) (s 3) (s 12) (s 77) w)) (N' := (s69_p12_den K)) (X := (fun i => (bif Nat.beq i 0 then (fun s w => s69_p1 K (s 3) w) else (fun _ _ => False)))) (X' := (fun i => (bif Nat.beq i 0 then (s69_p1_den K) else (fun _ _ => False)))) (R := s69_R K) (s := s) (w := w) (p := s69_p13 K (s 1) (s 3) (s 12) w) (q := s69_p13_den K s w) (fun s w h => s69_p12_ok K s w @h) (fun i => (tr_bif (fun s w h => s69_p1_ok K s w @h) tr_id)) (by kernel_rfl) (by kernel_rfl) @h
def s69_p14 (K : Value → World → Prop) (t1 t3 t12 t68 : Value) (w : World) : Prop :=
  ifb t68
  (s69_p7 K t1 t3 w)
  (s69_p13 K t1 t3 t12 w)
def s69_p14_den (K : Value → World → Prop) : (Nat → Value) → World → Prop := fun s w => ifb (ev s (.tmp 68)) ((s69_p7_den K) s w) ((s69_p13_den K) s w)
theorem s69_p14_ok (K : Value → World → Prop) (s : Nat → Value) (w : World) (h : s69_p14 K (s 1) (s 3) (s 12) (s 68) w) : Tr (s69_p14_den K s w) :=
  tr_cond (v := ev s (.tmp 68)) (a := s69_p7 K (s 1) (s 3) w) (a' := s69_p7_den K s w) (b := s69_p13 K (s 1) (s 3) (s 12) w) (b' := s69_p13_den K s w) (p := s69_p14 K (s 1) (s 3) (s 12) (s 68) w) (q := s69_p14_den K s w) (s69_p7_ok K s w) (s69_p13_ok K s w) (by kernel_rfl) (by kernel_rfl) @h
def s69_p15 (K : Value → World → Prop) (t1 t3 t12 : Value) (w : World) : Prop :=
  boI .eql t12 (.int .u8 18) (fun t69 w =>
  s69_p14 K t1 t3 t12 t69 w) w
def s69_p15_den (K : Value → World → Prop) : (Nat → Value) → World → Prop := denL Tryz.prog [(cd (Tryz.f69.body.getD .skip) [1, 1, 1, 0, 1, 0, 1, 1, 1, 1, 1, 1, 1, 1, 1, 1, 0])] (s69_p14_den K) (fun i => (bif Nat.beq i 0 then (s69_p1_den K) else (fun _ _ => False))) (s69_R K)
theorem s69_p15_ok (K : Value → World → Prop) (s : Nat → Value) (w : World) (h : s69_p15 K (s 1) (s 3) (s 12) w) : Tr (s69_p15_den K s w) :=
  tr_simple (P := Tryz.prog) (codes := [(cd (Tryz.f69.body.getD .skip) [1, 1, 1, 0, 1, 0, 1, 1, 1, 1, 1, 1, 1, 1, 1, 1, 0])]) (N := (fun s w => s69_p14 K (s 1) (s 3) (s 12) (s 68) w)) (N' := (s69_p14_den K)) (X := (fun i => (bif Nat.beq i 0 then (fun s w => s69_p1 K (s 3) w) else (fun _ _ => False)))) (X' := (fun i => (bif Nat.beq i 0 then (s69_p1_den K) else (fun _ _ => False)))) (R := s69_R K) (s := s) (w := w) (p := s69_p15 K (s 1) (s 3) (s 12) w) (q := s69_p15_den K s w) (fun s w h => s69_p14_ok K s w @h) (fun i => (tr_bif (fun s w h => s69_p1_ok K s w @h) tr_id)) (by kernel_rfl) (by kernel_rfl) @h
def s69_p16 (K : Value → World → Prop) (t1 t3 t12 t59 : Value) (w : World) : Prop :=
  ifb t59
  (s69_p6 K t1 t3 w)
  (s69_p15 K t1 t3 t12 w)
def s69_p16_den (K : Value → World → Prop) : (Nat → Value) → World → Prop := fun s w => ifb (ev s (.tmp 59)) ((s69_p6_den K) s w) ((s69_p15_den K) s w)
theorem s69_p16_ok (K : Value → World → Prop) (s : Nat → Value) (w : World) (h : s69_p16 K (s 1) (s 3) (s 12) (s 59) w) : Tr (s69_p16_den K s w) :=
  tr_cond (v := ev s (.tmp 59)) (a := s69_p6 K (s 1) (s 3) w) (a' := s69_p6_den K s w) (b := s69_p15 K (s 1) (s 3) (s 12) w) (b' := s69_p15_den K s w) (p := s69_p16 K (s 1) (s 3) (s 12) (s 59) w) (q := s69_p16_den K s w) (s69_p6_ok K s w) (s69_p15_ok K s w) (by kernel_rfl) (by kernel_rfl) @h
def s69_p17 (K : Value → World → Prop) (t1 t3 t12 : Value) (w : World) : Prop :=
  boI .eql t12 (.int .u8 17) (fun t60 w =>
  s69_p16 K t1 t3 t12 t60 w) w
def s69_p17_den (K : Value → World → Prop) : (Nat → Value) → World → Prop := denL Tryz.prog [(cd (Tryz.f69.body.getD .skip) [1, 1, 1, 0, 1, 0, 1, 1, 1, 1, 1, 1, 1, 1, 0])] (s69_p16_den K) (fun i => (bif Nat.beq i 0 then (s69_p1_den K) else (fun _ _ => False))) (s69_R K)
theorem s69_p17_ok (K : Value → World → Prop) (s : Nat → Value) (w : World) (h : s69_p17 K (s 1) (s 3) (s 12) w) : Tr (s69_p17_den K s w) :=
  tr_simple (P := Tryz.prog) (codes := [(cd (Tryz.f69.body.getD .skip) [1, 1, 1, 0, 1, 0, 1, 1, 1, 1, 1, 1, 1, 1, 0])]) (N := (fun s w => s69_p16 K (s 1) (s 3) (s 12) (s 59) w)) (N' := (s69_p16_den K)) (X := (fun i => (bif Nat.beq i 0 then (fun s w => s69_p1 K (s 3) w) else (fun _ _ => False)))) (X' := (fun i => (bif Nat.beq i 0 then (s69_p1_den K) else (fun _ _ => False)))) (R := s69_R K) (s := s) (w := w) (p := s69_p17 K (s 1) (s 3) (s 12) w) (q := s69_p17_den K s w) (fun s w h => s69_p16_ok K s w @h) (fun i => (tr_bif (fun s w h => s69_p1_ok K s w @h) tr_id)) (by kernel_rfl) (by kernel_rfl) @h
def s69_p18 (K : Value → World → Prop) (t1 t3 t12 t47 : Value) (w : World) : Prop :=
  ifb t47
  (s69_p5 K t1 t3 w)
  (s69_p17 K t1 t3 t12 w)
def s69_p18_den (K : Value → World → Prop) : (Nat → Value) → World → Prop := fun s w => ifb (ev s (.tmp 47)) ((s69_p5_den K) s w) ((s69_p17_den K) s w)
theorem s69_p18_ok (K : Value → World → Prop) (s : Nat → Value) (w : World) (h : s69_p18 K (s 1) (s 3) (s 12) (s 47) w) : Tr (s69_p18_den K s w) :=
  tr_cond (v := ev s (.tmp 47)) (a := s69_p5 K (s 1) (s 3) w) (a' := s69_p5_den K s w) (b := s69_p17 K (s 1) (s 3) (s 12) w) (b' := s69_p17_den K s w) (p := s69_p18 K (s 1) (s 3) (s 12) (s 47) w) (q := s69_p18_den K s w) (s69_p5_ok K s w) (s69_p17_ok K s w) (by kernel_rfl) (by kernel_rfl) @h
def s69_p19 (K : Value → World → Prop) (t1 t3 t12 : Value) (w : World) : Prop :=
  boI .eql t12 (.int .u8 2) (fun t48 w =>
  ifb t48
  (s69_p18 K t1 t3 t12 t48 w)
  (boI .eql t12 (.int .u8 3) (fun t49 w =>
  ifb t49
  (s69_p18 K t1 t3 t12 t49 w)
  (boI .eql t12 (.int .u8 4) (fun t50 w =>
  ifb t50
  (s69_p18 K t1 t3 t12 t50 w)
  (boI .eql t12 (.int .u8 7) (fun t51 w =>
  ifb t51
  (s69_p18 K t1 t3 t12 t51 w)
  (boI .eql t12 (.int .u8 8) (fun t52 w =>
  ifb t52
  (s69_p18 K t1 t3 t12 t52 w)
  (boI .eql t12 (.int .u8 16) (fun t53 w =>
  ifb t53
  (s69_p18 K t1 t3 t12 t53 w)
  (boI .eql t12 (.int .u8 24) (fun t54 w =>
  s69_p18 K t1 t3 t12 t54 w) w)) w)) w)) w)) w)) w)) w
def s69_p19_den (K : Value → World → Prop) : (Nat → Value) → World → Prop := denL Tryz.prog [(cd (Tryz.f69.body.getD .skip) [1, 1, 1, 0, 1, 0, 1, 1, 1, 1, 1, 1, 0, 0]), (cd (Tryz.f69.body.getD .skip) [1, 1, 1, 0, 1, 0, 1, 1, 1, 1, 1, 1, 0, 1])] (s69_p18_den K) (fun i => (bif Nat.beq i 0 then (s69_p1_den K) else (fun _ _ => False))) (s69_R K)
theorem s69_p19_ok (K : Value → World → Prop) (s : Nat → Value) (w : World) (h : s69_p19 K (s 1) (s 3) (s 12) w) : Tr (s69_p19_den K s w) :=
  tr_simple (P := Tryz.prog) (codes := [(cd (Tryz.f69.body.getD .skip) [1, 1, 1, 0, 1, 0, 1, 1, 1, 1, 1, 1, 0, 0]), (cd (Tryz.f69.body.getD .skip) [1, 1, 1, 0, 1, 0, 1, 1, 1, 1, 1, 1, 0, 1])]) (N := (fun s w => s69_p18 K (s 1) (s 3) (s 12) (s 47) w)) (N' := (s69_p18_den K)) (X := (fun i => (bif Nat.beq i 0 then (fun s w => s69_p1 K (s 3) w) else (fun _ _ => False)))) (X' := (fun i => (bif Nat.beq i 0 then (s69_p1_den K) else (fun _ _ => False)))) (R := s69_R K) (s := s) (w := w) (p := s69_p19 K (s 1) (s 3) (s 12) w) (q := s69_p19_den K s w) (fun s w h => s69_p18_ok K s w @h) (fun i => (tr_bif (fun s w h => s69_p1_ok K s w @h) tr_id)) (by kernel_rfl) (by kernel_rfl) @h
def s69_p20 (K : Value → World → Prop) (t1 t3 t12 t35 : Value) (w : World) : Prop :=
  ifb t35
  (s69_p4 K t1 t3 w)
  (s69_p19 K t1 t3 t12 w)
def s69_p20_den (K : Value → World → Prop) : (Nat → Value) → World → Prop := fun s w => ifb (ev s (.tmp 35)) ((s69_p4_den K) s w) ((s69_p19_den K) s w)
theorem s69_p20_ok (K : Value → World → Prop) (s : Nat → Value) (w : World) (h : s69_p20 K (s 1) (s 3) (s 12) (s 35) w) : Tr (s69_p20_den K s w) :=
  tr_cond (v := ev s (.tmp 35)) (a := s69_p4 K (s 1) (s 3) w) (a' := s69_p4_den K s w) (b := s69_p19 K (s 1) (s 3) (s 12) w) (b' := s69_p19_den K s w) (p := s69_p20 K (s 1) (s 3) (s 12) (s 35) w) (q := s69_p20_den K s w) (s69_p4_ok K s w) (s69_p19_ok K s w) (by kernel_rfl) (by kernel_rfl) @h
def s69_p21 (K : Value → World → Prop) (t1 t3 t12 : Value) (w : World) : Prop :=
  boI .eql t12 (.int .u8 6) (fun t36 w =>
  s69_p20 K t1 t3 t12 t36 w) w
def s69_p21_den (K : Value → World → Prop) : (Nat → Value) → World → Prop := denL Tryz.prog [(cd (Tryz.f69.body.getD .skip) [1, 1, 1, 0, 1, 0, 1, 1, 1, 1, 0])] (s69_p20_den K) (fun i => (bif Nat.beq i 0 then (s69_p1_den K) else (fun _ _ => False))) (s69_R K)
theorem s69_p21_ok (K : Value → World → Prop) (s : Nat → Value) (w : World) (h : s69_p21 K (s 1) (s 3) (s 12) w) : Tr (s69_p21_den K s w) :=
  tr_simple (P := Tryz.prog) (codes := [(cd (Tryz.f69.body.getD .skip) [1, 1, 1, 0, 1, 0, 1, 1, 1, 1, 0])]) (N := (fun s w => s69_p20 K (s 1) (s 3) (s 12) (s 35) w)) (N' := (s69_p20_den K)) (X := (fun i => (bif Nat.beq i 0 then (fun s w => s69_p1 K (s 3) w) else (fun _ _ => False)))) (X' := (fun i => (bif Nat.beq i 0 then (s69_p1_den K) else (fun _ _ => False)))) (R := s69_R K) (s := s) (w := w) (p := s69_p21 K (s 1) (s 3) (s 12) w) (q := s69_p21_den K s w) (fun s w h => s69_p20_ok K s w @h) (fun i => (tr_bif (fun s w h => s69_p1_ok K s w @h) tr_id)) (by kernel_rfl) (by kernel_rfl) @h
def s69_p22 (K : Value → World → Prop) (t1 t3 t12 t26 : Value) (w : World) : Prop :=
  ifb t26
  (s69_p3 K t1 t3 w)
  (s69_p21 K t1 t3 t12 w)
def s69_p22_den (K : Value → World → Prop) : (Nat → Value) → World → Prop := fun s w => ifb (ev s (.tmp 26)) ((s69_p3_den K) s w) ((s69_p21_den K) s w)
theorem s69_p22_ok (K : Value → World → Prop) (s : Nat → Value) (w : World) (h : s69_p22 K (s 1) (s 3) (s 12) (s 26) w) : Tr (s69_p22_den K s w) :=
  tr_cond (v := ev s (.tmp 26)) (a := s69_p3 K (s 1) (s 3) w) (a' := s69_p3_den K s w) (b := s69_p21 K (s 1) (s 3) (s 12) w) (b' := s69_p21_den K s w) (p := s69_p22 K (s 1) (s 3) (s 12) (s 26) w) (q := s69_p22_den K s w) (s69_p3_ok K s w) (s69_p21_ok K s w) (by kernel_rfl) (by kernel_rfl) @h
def s69_p23 (K : Value → World → Prop) (t1 t3 t12 : Value) (w : World) : Prop :=
  boI .eql t12 (.int .u8 5) (fun t27 w =>
  s69_p22 K t1 t3 t12 t27 w) w
def s69_p23_den (K : Value → World → Prop) : (Nat → Value) → World → Prop := denL Tryz.prog [(cd (Tryz.f69.body.getD .skip) [1, 1, 1, 0, 1, 0, 1, 1, 0])] (s69_p22_den K) (fun i => (bif Nat.beq i 0 then (s69_p1_den K) else (fun _ _ => False))) (s69_R K)
theorem s69_p23_ok (K : Value → World → Prop) (s : Nat → Value) (w : World) (h : s69_p23 K (s 1) (s 3) (s 12) w) : Tr (s69_p23_den K s w) :=
  tr_simple (P := Tryz.prog) (codes := [(cd (Tryz.f69.body.getD .skip) [1, 1, 1, 0, 1, 0, 1, 1, 0])]) (N := (fun s w => s69_p22 K (s 1) (s 3) (s 12) (s 26) w)) (N' := (s69_p22_den K)) (X := (fun i => (bif Nat.beq i 0 then (fun s w => s69_p1 K (s 3) w) else (fun _ _ => False)))) (X' := (fun i => (bif Nat.beq i 0 then (s69_p1_den K) else (fun _ _ => False)))) (R := s69_R K) (s := s) (w := w) (p := s69_p23 K (s 1) (s 3) (s 12) w) (q := s69_p23_den K s w) (fun s w h => s69_p22_ok K s w @h) (fun i => (tr_bif (fun s w h => s69_p1_ok K s w @h) tr_id)) (by kernel_rfl) (by kernel_rfl) @h
def s69_p24 (K : Value → World → Prop) (t1 t3 t12 t13 : Value) (w : World) : Prop :=
  ifb t13
  (s69_p2 K t1 t3 w)
  (s69_p23 K t1 t3 t12 w)
def s69_p24_den (K : Value → World → Prop) : (Nat → Value) → World → Prop := fun s w => ifb (ev s (.tmp 13)) ((s69_p2_den K) s w) ((s69_p23_den K) s w)
theorem s69_p24_ok (K : Value → World → Prop) (s : Nat → Value) (w : World) (h : s69_p24 K (s 1) (s 3) (s 12) (s 13) w) : Tr (s69_p24_den K s w) :=
  tr_cond (v := ev s (.tmp 13)) (a := s69_p2 K (s 1) (s 3) w) (a' := s69_p2_den K s w) (b := s69_p23 K (s 1) (s 3) (s 12) w) (b' := s69_p23_den K s w) (p := s69_p24 K (s 1) (s 3) (s 12) (s 13) w) (q := s69_p24_den K s w) (s69_p2_ok K s w) (s69_p23_ok K s w) (by kernel_rfl) (by kernel_rfl) @h
def s69_p25 (K : Value → World → Prop) (t1 t3 t12 : Value) (w : World) : Prop :=
  boI .eql t12 (.int .u8 1) (fun t14 w =>
  ifb t14
  (s69_p24 K t1 t3 t12 t14 w)
  (boI .eql t12 (.int .u8 22) (fun t15 w =>
  s69_p24 K t1 t3 t12 t15 w) w)) w
def s69_p25_den (K : Value → World → Prop) : (Nat → Value) → World → Prop := denL Tryz.prog [(cd (Tryz.f69.body.getD .skip) [1, 1, 1, 0, 1, 0, 0, 0]), (cd (Tryz.f69.body.getD .skip) [1, 1, 1, 0, 1, 0, 0, 1])] (s69_p24_den K) (fun i => (bif Nat.beq i 0 then (s69_p1_den K) else (fun _ _ => False))) (s69_R K)
theorem s69_p25_ok (K : Value → World → Prop) (s : Nat → Value) (w : World) (h : s69_p25 K (s 1) (s 3) (s 12) w) : Tr (s69_p25_den K s w) :=
  tr_simple (P := Tryz.prog) (codes := [(cd (Tryz.f69.body.getD .skip) [1, 1, 1, 0, 1, 0, 0, 0]), (cd (Tryz.f69.body.getD .skip) [1, 1, 1, 0, 1, 0, 0, 1])]) (N := (fun s w => s69_p24 K (s 1) (s 3) (s 12) (s 13) w)) (N' := (s69_p24_den K)) (X := (fun i => (bif Nat.beq i 0 then (fun s w => s69_p1 K (s 3) w) else (fun _ _ => False)))) (X' := (fun i => (bif Nat.beq i 0 then (s69_p1_den K) else (fun _ _ => False)))) (R := s69_R K) (s := s) (w := w) (p := s69_p25 K (s 1) (s 3) (s 12) w) (q := s69_p25_den K s w) (fun s w h => s69_p24_ok K s w @h) (fun i => (tr_bif (fun s w h => s69_p1_ok K s w @h) tr_id)) (by kernel_rfl) (by kernel_rfl) @h
def s69_p26 (K : Value → World → Prop) (t0 : Value) (w : World) : Prop :=
  nw 49 (t0).cells (fun t1 w =>
  bdq [(.slice none 0 0)] [] (fun t4 w =>
  nw 169 (t4).cells (fun t5 w =>
  fd 0 t1 (fun t7 w =>
  ld1 t7 (fun t8 w =>
  cl Tryz.prog 75 #[t8] (fun t9 w =>
  cl Tryz.prog 91 #[t5, t9] (fun t10 w =>
  fd 0 t1 (fun t11 w =>
  ld1 t11 (fun t12 w =>
  s69_p25 K t1 t5 t12 w) w) w) w) w) w) w) w) w) w
def s69_p26_den (K : Value → World → Prop) : (Nat → Value) → World → Prop := denL Tryz.prog [(cd (Tryz.f69.body.getD .skip) [0]), (cd (Tryz.f69.body.getD .skip) [1, 0]), (cd (Tryz.f69.body.getD .skip) [1, 1, 0]), (cd (Tryz.f69.body.getD .skip) [1, 1, 1, 0, 0])] (s69_p25_den K) (fun i => (fun _ _ => False)) (s69_R K)
theorem s69_p26_ok (K : Value → World → Prop) (s : Nat → Value) (w : World) (h : s69_p26 K (s 0) w) : Tr (s69_p26_den K s w) :=
  tr_simple (P := Tryz.prog) (codes := [(cd (Tryz.f69.body.getD .skip) [0]), (cd (Tryz.f69.body.getD .skip) [1, 0]), (cd (Tryz.f69.body.getD .skip) [1, 1, 0]), (cd (Tryz.f69.body.getD .skip) [1, 1, 1, 0, 0])]) (N := (fun s w => s69_p25 K (s 1) (s 3) (s 12) w)) (N' := (s69_p25_den K)) (X := (fun i => (fun _ _ => False))) (X' := (fun i => (fun _ _ => False))) (R := s69_R K) (s := s) (w := w) (p := s69_p26 K (s 0) w) (q := s69_p26_den K s w) (fun s w h => s69_p25_ok K s w @h) (fun i => tr_id) (by kernel_rfl) (by kernel_rfl) @h
/-- the call, from the text -/
theorem c69 (t0 : Value) {K : Value → World → Prop} {w : World} (h : s69_p26 K t0 w) : cl Tryz.prog 69 #[t0] K w :=
  calls_of_tr (c := (Tryz.f69.body.getD .skip)) (fn := Tryz.f69) (q := s69_p26_den K (st0 #[t0]) w) Tryz.func69 (by kernel_rfl) (by kernel_rfl) (Nat.le_of_ble_eq_true (by kernel_rfl)) (by kernel_rfl) (by kernel_rfl) (s69_p26_ok K (st0 #[t0]) w @h)

/-! ### function 75 : e2e.engine.OpName -/
def s75_R (K : Value → World → Prop) (s : Nat → Value) (w : World) : Prop := retv Tryz.prog s Tryz.f75.results.toList (fun vs => K (pack vs) w) w
def s75_p1 (K : Value → World → Prop) (t0 : Value) (w : World) : Prop :=
  boI .eql t0 (.int .u8 1) (fun t5 w =>
  ifb t5
  (K (.string ⟨#[104, 111, 108, 100]⟩) w)
  (boI .eql t0 (.int .u8 2) (fun t7 w =>
  ifb t7
  (K (.string ⟨#[99, 111, 110, 102, 105, 114, 109]⟩) w)
  (boI .eql t0 (.int .u8 3) (fun t9 w =>
  ifb t9
  (K (.string ⟨#[99, 97, 110, 99, 101, 108]⟩) w)
  (boI .eql t0 (.int .u8 4) (fun t11 w =>
  ifb t11
  (K (.string ⟨#[99, 104, 101, 99, 107, 32, 105, 110]⟩) w)
  (boI .eql t0 (.int .u8 5) (fun t13 w =>
  ifb t13
  (K (.string ⟨#[114, 101, 98, 111, 111, 107]⟩) w)
  (boI .eql t0 (.int .u8 6) (fun t15 w =>
  ifb t15
  (K (.string ⟨#[106, 111, 105, 110]⟩) w)
  (boI .eql t0 (.int .u8 7) (fun t17 w =>
  ifb t17
  (K (.string ⟨#[108, 101, 97, 118, 101]⟩) w)
  (boI .eql t0 (.int .u8 8) (fun t19 w =>
  ifb t19
  (K (.string ⟨#[114, 101, 100, 101, 101, 109]⟩) w)
  (boI .eql t0 (.int .u8 9) (fun t21 w =>
  ifb t21
  (K (.string ⟨#[116, 105, 99, 107]⟩) w)
  (boI .eql t0 (.int .u8 16) (fun t23 w =>
  ifb t23
  (K (.string ⟨#[103, 101, 116]⟩) w)
  (boI .eql t0 (.int .u8 17) (fun t25 w =>
  ifb t25
  (K (.string ⟨#[108, 105, 115, 116]⟩) w)
  (boI .eql t0 (.int .u8 18) (fun t27 w =>
  ifb t27
  (K (.string ⟨#[115, 108, 111, 116]⟩) w)
  (boI .eql t0 (.int .u8 19) (fun t29 w =>
  ifb t29
  (K (.string ⟨#[108, 105, 110, 101]⟩) w)
  (boI .eql t0 (.int .u8 20) (fun t31 w =>
  ifb t31
  (K (.string ⟨#[99, 108, 111, 99, 107]⟩) w)
  (boI .eql t0 (.int .u8 21) (fun t33 w =>
  ifb t33
  (K (.string ⟨#[102, 105, 110, 100]⟩) w)
  (boI .eql t0 (.int .u8 22) (fun t35 w =>
  ifb t35
  (K (.string ⟨#[113, 117, 111, 116, 101]⟩) w)
  (boI .eql t0 (.int .u8 23) (fun t37 w =>
  ifb t37
  (K (.string ⟨#[99, 111, 117, 110, 116]⟩) w)
  (boI .eql t0 (.int .u8 24) (fun t39 w =>
  ifb t39
  (K (.string ⟨#[112, 108, 97, 99, 101]⟩) w)
  (cvi .i64 t0 (fun t41 w =>
  cl Tryz.prog 56 #[t41] (fun t42 w =>
  boS .add (.string ⟨#[111, 112, 99, 111, 100, 101, 32]⟩) t42 (fun t43 w =>
  K t43 w) w) w) w)) w)) w)) w)) w)) w)) w)) w)) w)) w)) w)) w)) w)) w)) w)) w)) w)) w)) w
def s75_p1_den (K : Value → World → Prop) : (Nat → Value) → World → Prop := denL Tryz.prog [(cd (Tryz.f75.body.getD .skip) [0]), (cd (Tryz.f75.body.getD .skip) [1, 0, 0]), (cd (Tryz.f75.body.getD .skip) [1, 0, 1]), (cd (Tryz.f75.body.getD .skip) [1, 1, 0]), (cd (Tryz.f75.body.getD .skip) [1, 1, 1])] (fun _ _ => False) (fun i => (fun _ _ => False)) (s75_R K)
theorem s75_p1_ok (K : Value → World → Prop) (s : Nat → Value) (w : World) (h : s75_p1 K (s 0) w) : Tr (s75_p1_den K s w) :=
  tr_simple (P := Tryz.prog) (codes := [(cd (Tryz.f75.body.getD .skip) [0]), (cd (Tryz.f75.body.getD .skip) [1, 0, 0]), (cd (Tryz.f75.body.getD .skip) [1, 0, 1]), (cd (Tryz.f75.body.getD .skip) [1, 1, 0]), (cd (Tryz.f75.body.getD .skip) [1, 1, 1])]) (N := (fun _ _ => False)) (N' := (fun _ _ => False)) (X := (fun i => (fun _ _ => False))) (X' := (fun i => (fun _ _ => False))) (R := s75_R K) (s := s) (w := w) (p := s75_p1 K (s 0) w) (q := s75_p1_den K s w) tr_id (fun i => tr_id) (by kernel_rfl) (by kernel_rfl) @h
/-- the call, from the text -/
theorem c75 (t0 : Value) {K : Value → World → Prop} {w : World} (h : s75_p1 K t0 w) : cl Tryz.prog 75 #[t0] K w :=
  calls_of_tr (c := (Tryz.f75.body.getD .skip)) (fn := Tryz.f75) (q := s75_p1_den K (st0 #[t0]) w) Tryz.func75 (by kernel_rfl) (by kernel_rfl) (Nat.le_of_ble_eq_true (by kernel_rfl)) (by kernel_rfl) (by kernel_rfl) (s75_p1_ok K (st0 #[t0]) w @h)

/-! ### function 59 : e2e.engine.CodeName -/
def s59_R (K : Value → World → Prop) (s : Nat → Value) (w : World) : Prop := retv Tryz.prog s Tryz.f59.results.toList (fun vs => K (pack vs) w) w
def s59_p1 (K : Value → World → Prop) (t0 : Value) (w : World) : Prop :=
  boI .lss t0 (.int .i64 0) (fun t4 w =>
  gd t4 false (fun K w => K t0 w) (fun t6 w =>
  gd t4 false (boI .geq t6 (.int .i64 23)) (fun t7 w =>
  pk t4 (.bool true) t7 (fun t8 w =>
  ifb t8
  (cl Tryz.prog 56 #[t0] (fun t10 w =>
  boS .add (.string ⟨#[99, 111, 100, 101, 32]⟩) t10 (fun t11 w =>
  K t11 w) w) w)
  (ixa 23 1 (.pointer (some ⟨1, 0, none⟩)) t0 (fun t13 w =>
  ld1 t13 (fun t14 w =>
  K t14 w) w) w)) w) w) w) w
def s59_p1_den (K : Value → World → Prop) : (Nat → Value) → World → Prop := denL Tryz.prog [(cd (Tryz.f59.body.getD .skip) [0]), (cd (Tryz.f59.body.getD .skip) [1, 0, 0]), (cd (Tryz.f59.body.getD .skip) [1, 0, 1]), (cd (Tryz.f59.body.getD .skip) [1, 1, 0]), (cd (Tryz.f59.body.getD .skip) [1, 1, 1])] (fun _ _ => False) (fun i => (fun _ _ => False)) (s59_R K)
theorem s59_p1_ok (K : Value → World → Prop) (s : Nat → Value) (w : World) (h : s59_p1 K (s 0) w) : Tr (s59_p1_den K s w) :=
  tr_simple (P := Tryz.prog) (codes := [(cd (Tryz.f59.body.getD .skip) [0]), (cd (Tryz.f59.body.getD .skip) [1, 0, 0]), (cd (Tryz.f59.body.getD .skip) [1, 0, 1]), (cd (Tryz.f59.body.getD .skip) [1, 1, 0]), (cd (Tryz.f59.body.getD .skip) [1, 1, 1])]) (N := (fun _ _ => False)) (N' := (fun _ _ => False)) (X := (fun i => (fun _ _ => False))) (X' := (fun i => (fun _ _ => False))) (R := s59_R K) (s := s) (w := w) (p := s59_p1 K (s 0) w) (q := s59_p1_den K s w) tr_id (fun i => tr_id) (by kernel_rfl) (by kernel_rfl) @h
/-- the call, from the text -/
theorem c59 (t0 : Value) {K : Value → World → Prop} {w : World} (h : s59_p1 K t0 w) : cl Tryz.prog 59 #[t0] K w :=
  calls_of_tr (c := (Tryz.f59.body.getD .skip)) (fn := Tryz.f59) (q := s59_p1_den K (st0 #[t0]) w) Tryz.func59 (by kernel_rfl) (by kernel_rfl) (Nat.le_of_ble_eq_true (by kernel_rfl)) (by kernel_rfl) (by kernel_rfl) (s59_p1_ok K (st0 #[t0]) w @h)

end Go.Proofs.Qxb6500896aGreatDoor
