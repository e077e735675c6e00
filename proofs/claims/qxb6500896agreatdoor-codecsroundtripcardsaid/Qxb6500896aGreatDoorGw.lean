import Derived.Test.Qxb6500896aGreatDoorProg
import Derived.Test.Qxb6500896aGreatDoorShMix3
namespace Go.Proofs.Qxb6500896aGreatDoor
open Go.Sh Go.RowKit
set_option linter.unusedVariables false
set_option maxRecDepth 100000

/-! ### function 70 : e2e.engine.FormatReply -/
def s70_R (K : Value → World → Prop) (s : Nat → Value) (w : World) : Prop := retv Tryz.prog s Tryz.f70.results.toList (fun vs => K (pack vs) w) w
def s70_p1 (K : Value → World → Prop) (t3 : Value) (w : World) : Prop :=
  cl Tryz.prog 93 #[t3] (fun t179 w =>
  K t179 w) w
def s70_p1_den (K : Value → World → Prop) : (Nat → Value) → World → Prop := denL Tryz.prog [(cd (Tryz.f70.body.getD .skip) [1, 1, 1, 1, 1, 0]), (cd (Tryz.f70.body.getD .skip) [1, 1, 1, 1, 1, 1])] (fun _ _ => False) (fun i => (fun _ _ => False)) (s70_R K)
theorem s70_p1_ok (K : Value → World → Prop) (s : Nat → Value) (w : World) (h : s70_p1 K (s 3) w) : Tr (s70_p1_den K s w) :=
  tr_simple (P := Tryz.prog) (codes := [(cd (Tryz.f70.body.getD .skip) [1, 1, 1, 1, 1, 0]), (cd (Tryz.f70.body.getD .skip) [1, 1, 1, 1, 1, 1])]) (N := (fun _ _ => False)) (N' := (fun _ _ => False)) (X := (fun i => (fun _ _ => False))) (X' := (fun i => (fun _ _ => False))) (R := s70_R K) (s := s) (w := w) (p := s70_p1 K (s 3) w) (q := s70_p1_den K s w) tr_id (fun i => tr_id) (by kernel_rfl) (by kernel_rfl) @h
def s70_p2_d (K : Value → World → Prop) (J : World → Prop) (t1 t3 : Value) (w0 w : World) : Prop :=
  fd 2 t1 (fun t33 _ =>
  Go.Sh.R.qw J (ld1 t33) (fun t34 =>
  fd 3 t1 (fun t36 _ =>
  Go.Sh.R.qw J (ld1 t36) (fun t37 =>
  cl Tryz.prog 92 #[t3, (.string ⟨#[105, 100]⟩), t34] (fun t35 w =>
  J w ∧
  cl Tryz.prog 92 #[t35, (.string ⟨#[101, 120, 112, 105, 114, 121]⟩), t37] (fun t38 w =>
  s70_p1 K t3 w) w) w)) w0)) w0
def s70_p2 (K : Value → World → Prop) (t1 t3 : Value) (w : World) : Prop := ∃ J : World → Prop, J (drw w) ∧ s70_p2_d K J t1 t3 (drw w) (drw w)
def s70_p2_den (K : Value → World → Prop) : (Nat → Value) → World → Prop := denL Tryz.prog [(cd (Tryz.f70.body.getD .skip) [1, 1, 1, 1, 0, 1, 0, 1, 0])] (s70_p1_den K) (fun i => (bif Nat.beq i 0 then (s70_p1_den K) else (fun _ _ => False))) (s70_R K)
theorem s70_p2_ok (K : Value → World → Prop) (s : Nat → Value) (w : World) (h : s70_p2 K (s 1) (s 3) w) : Tr (s70_p2_den K s w) :=
  Go.Sh.R.tr_drawR (P := Tryz.prog) (ops := (ro (cd (Tryz.f70.body.getD .skip) [1, 1, 1, 1, 0, 1, 0, 1, 0]))) (ms := [0, 0, 2, 7, 0, 16, 63]) (cs := [0, 1, 2, 4, 5]) (N := (fun s w => s70_p1 K (s 3) w)) (N' := (s70_p1_den K)) (s := s) (w := w) (p := fun J => s70_p2_d K J (s 1) (s 3) (drw w) (drw w)) (q := s70_p2_den K s w) (by kernel_rfl) (by kernel_rfl) (fun s w h => s70_p1_ok K s w @h) (by kernel_rfl) (by kernel_rfl) @h
def s70_p3_d (K : Value → World → Prop) (J : World → Prop) (t1 t3 : Value) (w0 w : World) : Prop :=
  fd 2 t1 (fun t42 _ =>
  Go.Sh.R.qw J (ld1 t42) (fun t43 =>
  fd 4 t1 (fun t45 _ =>
  Go.Sh.R.qw J (ld1 t45) (fun t46 =>
  cl Tryz.prog 92 #[t3, (.string ⟨#[105, 100]⟩), t43] (fun t44 w =>
  J w ∧
  cl Tryz.prog 92 #[t44, (.string ⟨#[112, 111, 115, 105, 116, 105, 111, 110]⟩), t46] (fun t47 w =>
  s70_p1 K t3 w) w) w)) w0)) w0
def s70_p3 (K : Value → World → Prop) (t1 t3 : Value) (w : World) : Prop := ∃ J : World → Prop, J (drw w) ∧ s70_p3_d K J t1 t3 (drw w) (drw w)
def s70_p3_den (K : Value → World → Prop) : (Nat → Value) → World → Prop := denL Tryz.prog [(cd (Tryz.f70.body.getD .skip) [1, 1, 1, 1, 0, 1, 0, 1, 1, 1, 0])] (s70_p1_den K) (fun i => (bif Nat.beq i 0 then (s70_p1_den K) else (fun _ _ => False))) (s70_R K)
theorem s70_p3_ok (K : Value → World → Prop) (s : Nat → Value) (w : World) (h : s70_p3 K (s 1) (s 3) w) : Tr (s70_p3_den K s w) :=
  Go.Sh.R.tr_drawR (P := Tryz.prog) (ops := (ro (cd (Tryz.f70.body.getD .skip) [1, 1, 1, 1, 0, 1, 0, 1, 1, 1, 0]))) (ms := [0, 0, 2, 7, 0, 16, 63]) (cs := [0, 1, 2, 4, 5]) (N := (fun s w => s70_p1 K (s 3) w)) (N' := (s70_p1_den K)) (s := s) (w := w) (p := fun J => s70_p3_d K J (s 1) (s 3) (drw w) (drw w)) (q := s70_p3_den K s w) (by kernel_rfl) (by kernel_rfl) (fun s w h => s70_p1_ok K s w @h) (by kernel_rfl) (by kernel_rfl) @h
def s70_p4 (K : Value → World → Prop) (t1 t3 : Value) (w : World) : Prop :=
  fd 5 t1 (fun t56 w =>
  ld1 t56 (fun t57 w =>
  cl Tryz.prog 102 #[t57] (fun t58 w =>
  cl Tryz.prog 91 #[t3, t58] (fun t59 w =>
  s70_p1 K t3 w) w) w) w) w
def s70_p4_den (K : Value → World → Prop) : (Nat → Value) → World → Prop := denL Tryz.prog [(cd (Tryz.f70.body.getD .skip) [1, 1, 1, 1, 0, 1, 0, 1, 1, 1, 1, 1, 0])] (s70_p1_den K) (fun i => (bif Nat.beq i 0 then (s70_p1_den K) else (fun _ _ => False))) (s70_R K)
theorem s70_p4_ok (K : Value → World → Prop) (s : Nat → Value) (w : World) (h : s70_p4 K (s 1) (s 3) w) : Tr (s70_p4_den K s w) :=
  tr_simple (P := Tryz.prog) (codes := [(cd (Tryz.f70.body.getD .skip) [1, 1, 1, 1, 0, 1, 0, 1, 1, 1, 1, 1, 0])]) (N := (fun s w => s70_p1 K (s 3) w)) (N' := (s70_p1_den K)) (X := (fun i => (bif Nat.beq i 0 then (fun s w => s70_p1 K (s 3) w) else (fun _ _ => False)))) (X' := (fun i => (bif Nat.beq i 0 then (s70_p1_den K) else (fun _ _ => False)))) (R := s70_R K) (s := s) (w := w) (p := s70_p4 K (s 1) (s 3) w) (q := s70_p4_den K s w) (fun s w h => s70_p1_ok K s w @h) (fun i => (tr_bif (fun s w h => s70_p1_ok K s w @h) tr_id)) (by kernel_rfl) (by kernel_rfl) @h
def s70_p5_d (K : Value → World → Prop) (J : World → Prop) (t1 t3 : Value) (w0 w : World) : Prop :=
  fd 8 t1 (fun t86 _ =>
  Go.Sh.R.qw J (ld1 t86) (fun t87 =>
  fd 9 t1 (fun t89 _ =>
  Go.Sh.R.qw J (ld1 t89) (fun t90 =>
  fd 10 t1 (fun t92 _ =>
  Go.Sh.R.qw J (ld1 t92) (fun t93 =>
  cl Tryz.prog 92 #[t3, (.string ⟨#[101, 120, 112, 105, 114, 101, 100]⟩), t87] (fun t88 w =>
  J w ∧
  cl Tryz.prog 92 #[t88, (.string ⟨#[110, 111, 45, 115, 104, 111, 119, 115]⟩), t90] (fun t91 w =>
  J w ∧
  cl Tryz.prog 92 #[t91, (.string ⟨#[108, 97, 112, 115, 101, 100]⟩), t93] (fun t94 w =>
  s70_p1 K t3 w) w) w) w)) w0)) w0)) w0
def s70_p5 (K : Value → World → Prop) (t1 t3 : Value) (w : World) : Prop := ∃ J : World → Prop, J (drw w) ∧ s70_p5_d K J t1 t3 (drw w) (drw w)
def s70_p5_den (K : Value → World → Prop) : (Nat → Value) → World → Prop := denL Tryz.prog [(cd (Tryz.f70.body.getD .skip) [1, 1, 1, 1, 0, 1, 0, 1, 1, 1, 1, 1, 1, 1, 0, 1, 1])] (s70_p1_den K) (fun i => (bif Nat.beq i 0 then (s70_p1_den K) else (fun _ _ => False))) (s70_R K)
theorem s70_p5_ok (K : Value → World → Prop) (s : Nat → Value) (w : World) (h : s70_p5 K (s 1) (s 3) w) : Tr (s70_p5_den K s w) :=
  Go.Sh.R.tr_drawR (P := Tryz.prog) (ops := (ro (cd (Tryz.f70.body.getD .skip) [1, 1, 1, 1, 0, 1, 0, 1, 1, 1, 1, 1, 1, 1, 0, 1, 1]))) (ms := [0, 0, 2, 7, 0, 16, 63, 0, 128, 511]) (cs := [0, 1, 2, 4, 5, 7, 8]) (N := (fun s w => s70_p1 K (s 3) w)) (N' := (s70_p1_den K)) (s := s) (w := w) (p := fun J => s70_p5_d K J (s 1) (s 3) (drw w) (drw w)) (q := s70_p5_den K s w) (by kernel_rfl) (by kernel_rfl) (fun s w h => s70_p1_ok K s w @h) (by kernel_rfl) (by kernel_rfl) @h
def s70_p6 (K : Value → World → Prop) (B1 : List Value → World → Prop) (t1 t3 t67 t68 t69 : Value) (w : World) : Prop :=
  boI .add t69 (.int .i64 1) (fun t84 w =>
  B1 [t1, t3, t67, t68, t84] w) w
def s70_p6_den (K : Value → World → Prop) (M1 : (Nat → Value) → World → Prop) : (Nat → Value) → World → Prop := denL Tryz.prog [(cd (Tryz.f70.body.getD .skip) [1, 1, 1, 1, 0, 1, 0, 1, 1, 1, 1, 1, 1, 1, 0, 1, 0, 1, 0, 0, 1, 1, 1])] M1 (fun i => (bif Nat.beq i 1 then (s70_p5_den K) else (bif Nat.beq i 0 then (s70_p1_den K) else (fun _ _ => False)))) (s70_R K)
theorem s70_p6_ok (K : Value → World → Prop) (B1 : List Value → World → Prop) (s : Nat → Value) (w : World) (h : s70_p6 K B1 (s 1) (s 3) (s 67) (s 68) (s 69) w) : Tr (s70_p6_den K (fun s w => B1 [s 1, s 3, s 67, s 68, s 69] w) s w) :=
  tr_simple (P := Tryz.prog) (codes := [(cd (Tryz.f70.body.getD .skip) [1, 1, 1, 1, 0, 1, 0, 1, 1, 1, 1, 1, 1, 1, 0, 1, 0, 1, 0, 0, 1, 1, 1])]) (N := (fun s w => B1 [s 1, s 3, s 67, s 68, s 69] w)) (N' := (fun s w => B1 [s 1, s 3, s 67, s 68, s 69] w)) (X := (fun i => (bif Nat.beq i 1 then (fun s w => s70_p5 K (s 1) (s 3) w) else (bif Nat.beq i 0 then (fun s w => s70_p1 K (s 3) w) else (fun _ _ => False))))) (X' := (fun i => (bif Nat.beq i 1 then (s70_p5_den K) else (bif Nat.beq i 0 then (s70_p1_den K) else (fun _ _ => False))))) (R := s70_R K) (s := s) (w := w) (p := s70_p6 K B1 (s 1) (s 3) (s 67) (s 68) (s 69) w) (q := s70_p6_den K (fun s w => B1 [s 1, s 3, s 67, s 68, s 69] w) s w) tr_id (fun i => (tr_bif (fun s w h => s70_p5_ok K s w @h) (tr_bif (fun s w h => s70_p1_ok K s w @h) tr_id))) (by kernel_rfl) (by kernel_rfl) @h
def s70_p7_d (K : Value → World → Prop) (B1 : List Value → World → Prop) (J : World → Prop) (t1 t3 t5 t67 t68 t69 : Value) (w0 w : World) : Prop :=
  fd 0 t5 (fun t74 _ =>
  Go.Sh.R.qw J (ld1 t74) (fun t75 =>
  fd 1 t5 (fun t79 _ =>
  Go.Sh.R.qw J (ld1 t79) (fun t80 =>
  cl Tryz.prog 56 #[t75] (fun t76 w =>
  J w ∧
  (boS .add (.string ⟨#[105, 115, 115, 117, 101, 100, 32]⟩) t76 (fun t77 w =>
  J w ∧
  (boS .add t77 (.string ⟨#[64]⟩) (fun t78 w =>
  J w ∧
  cl Tryz.prog 56 #[t80] (fun t81 w =>
  boS .add t78 t81 (fun t82 w =>
  cl Tryz.prog 91 #[t3, t82] (fun t83 w =>
  s70_p6 K B1 t1 t3 t67 t68 t69 w) w) w) w) w) ∧
  (cl Tryz.prog 56 #[t80] (fun t81_2 w =>
  boS .add t77 (.string ⟨#[64]⟩) (fun t78_2 w =>
  J w ∧
  boS .add t78_2 t81_2 (fun t82_2 w =>
  cl Tryz.prog 91 #[t3, t82_2] (fun t83_2 w =>
  s70_p6 K B1 t1 t3 t67 t68 t69 w) w) w) w) w)) w) ∧
  (cl Tryz.prog 56 #[t80] (fun t81_3 w =>
  boS .add (.string ⟨#[105, 115, 115, 117, 101, 100, 32]⟩) t76 (fun t77_2 w =>
  J w ∧
  boS .add t77_2 (.string ⟨#[64]⟩) (fun t78_3 w =>
  J w ∧
  boS .add t78_3 t81_3 (fun t82_3 w =>
  cl Tryz.prog 91 #[t3, t82_3] (fun t83_3 w =>
  s70_p6 K B1 t1 t3 t67 t68 t69 w) w) w) w) w) w)) w)) w0)) w0
def s70_p7 (K : Value → World → Prop) (B1 : List Value → World → Prop) (t1 t3 t5 t67 t68 t69 : Value) (w : World) : Prop := ∃ J : World → Prop, J (drw w) ∧ s70_p7_d K B1 J t1 t3 t5 t67 t68 t69 (drw w) (drw w)
def s70_p7_den (K : Value → World → Prop) (M1 : (Nat → Value) → World → Prop) : (Nat → Value) → World → Prop := denL Tryz.prog [(cd (Tryz.f70.body.getD .skip) [1, 1, 1, 1, 0, 1, 0, 1, 1, 1, 1, 1, 1, 1, 0, 1, 0, 1, 0, 0, 1, 1, 0, 0, 1])] (s70_p6_den K M1) (fun i => (bif Nat.beq i 2 then (s70_p6_den K M1) else (bif Nat.beq i 1 then (s70_p5_den K) else (bif Nat.beq i 0 then (s70_p1_den K) else (fun _ _ => False))))) (s70_R K)
theorem s70_p7_ok (K : Value → World → Prop) (B1 : List Value → World → Prop) (s : Nat → Value) (w : World) (h : s70_p7 K B1 (s 1) (s 3) (s 5) (s 67) (s 68) (s 69) w) : Tr (s70_p7_den K (fun s w => B1 [s 1, s 3, s 67, s 68, s 69] w) s w) :=
  Go.Sh.R.tr_drawR (P := Tryz.prog) (ops := (ro (cd (Tryz.f70.body.getD .skip) [1, 1, 1, 1, 0, 1, 0, 1, 1, 1, 1, 1, 1, 1, 0, 1, 0, 1, 0, 0, 1, 1, 0, 0, 1]))) (ms := [0, 0, 2, 6, 14, 30, 0, 64, 206, 510, 1023]) (cs := [0, 1, 2, 6, 7]) (N := (fun s w => s70_p6 K B1 (s 1) (s 3) (s 67) (s 68) (s 69) w)) (N' := (s70_p6_den K (fun s w => B1 [s 1, s 3, s 67, s 68, s 69] w))) (s := s) (w := w) (p := fun J => s70_p7_d K B1 J (s 1) (s 3) (s 5) (s 67) (s 68) (s 69) (drw w) (drw w)) (q := s70_p7_den K (fun s w => B1 [s 1, s 3, s 67, s 68, s 69] w) s w) (by kernel_rfl) (by kernel_rfl) (fun s w h => s70_p6_ok K B1 s w @h) (by kernel_rfl) (by kernel_rfl) @h
def s70_p8 (K : Value → World → Prop) (B1 : List Value → World → Prop) (t1 t3 t67 t68 t69 : Value) (w : World) : Prop :=
  ixs 2 t67 t69 (fun t71 w =>
  ldn 2 t71 (fun t72 w =>
  nw 148 #[(.int .i64 0), (.int .i64 0)] (fun t5 w =>
  stn 2 t5 t72 (fun w =>
  s70_p7 K B1 t1 t3 t5 t67 t68 t69 w) w) w) w) w
def s70_p8_den (K : Value → World → Prop) (M1 : (Nat → Value) → World → Prop) : (Nat → Value) → World → Prop := denL Tryz.prog [(cd (Tryz.f70.body.getD .skip) [1, 1, 1, 1, 0, 1, 0, 1, 1, 1, 1, 1, 1, 1, 0, 1, 0, 1, 0, 0, 1, 1, 0, 0, 0])] (s70_p7_den K M1) (fun i => (bif Nat.beq i 2 then (s70_p6_den K M1) else (bif Nat.beq i 1 then (s70_p5_den K) else (bif Nat.beq i 0 then (s70_p1_den K) else (fun _ _ => False))))) (s70_R K)
theorem s70_p8_ok (K : Value → World → Prop) (B1 : List Value → World → Prop) (s : Nat → Value) (w : World) (h : s70_p8 K B1 (s 1) (s 3) (s 67) (s 68) (s 69) w) : Tr (s70_p8_den K (fun s w => B1 [s 1, s 3, s 67, s 68, s 69] w) s w) :=
  tr_simple (P := Tryz.prog) (codes := [(cd (Tryz.f70.body.getD .skip) [1, 1, 1, 1, 0, 1, 0, 1, 1, 1, 1, 1, 1, 1, 0, 1, 0, 1, 0, 0, 1, 1, 0, 0, 0])]) (N := (fun s w => s70_p7 K B1 (s 1) (s 3) (s 5) (s 67) (s 68) (s 69) w)) (N' := (s70_p7_den K (fun s w => B1 [s 1, s 3, s 67, s 68, s 69] w))) (X := (fun i => (bif Nat.beq i 2 then (fun s w => s70_p6 K B1 (s 1) (s 3) (s 67) (s 68) (s 69) w) else (bif Nat.beq i 1 then (fun s w => s70_p5 K (s 1) (s 3) w) else (bif Nat.beq i 0 then (fun s w => s70_p1 K (s 3) w) else (fun _ _ => False)))))) (X' := (fun i => (bif Nat.beq i 2 then (s70_p6_den K (fun s w => B1 [s 1, s 3, s 67, s 68, s 69] w)) else (bif Nat.beq i 1 then (s70_p5_den K) else (bif Nat.beq i 0 then (s70_p1_den K) else (fun _ _ => False)))))) (R := s70_R K) (s := s) (w := w) (p := s70_p8 K B1 (s 1) (s 3) (s 67) (s 68) (s 69) w) (q := s70_p8_den K (fun s w => B1 [s 1, s 3, s 67, s 68, s 69] w) s w) (fun s w h => s70_p7_ok K B1 s w @h) (fun i => (tr_bif (fun s w h => s70_p6_ok K B1 s w @h) (tr_bif (fun s w h => s70_p5_ok K s w @h) (tr_bif (fun s w h => s70_p1_ok K s w @h) tr_id)))) (by kernel_rfl) (by kernel_rfl) @h
def s70_p9 (K : Value → World → Prop) (B1 : List Value → World → Prop) (t1 t3 t67 t68 t69 : Value) (w : World) : Prop :=
  boI .lss t69 t68 (fun t70 w =>
  ifb t70
  (s70_p8 K B1 t1 t3 t67 t68 t69 w)
  (s70_p5 K t1 t3 w)) w
def s70_p9_den (K : Value → World → Prop) (M1 : (Nat → Value) → World → Prop) : (Nat → Value) → World → Prop := denL Tryz.prog [(cd (Tryz.f70.body.getD .skip) [1, 1, 1, 1, 0, 1, 0, 1, 1, 1, 1, 1, 1, 1, 0, 1, 0, 1, 0, 0, 0]), (cd (Tryz.f70.body.getD .skip) [1, 1, 1, 1, 0, 1, 0, 1, 1, 1, 1, 1, 1, 1, 0, 1, 0, 1, 0, 0, 1, 0])] (s70_p8_den K M1) (fun i => (bif Nat.beq i 1 then (s70_p5_den K) else (bif Nat.beq i 0 then (s70_p1_den K) else (fun _ _ => False)))) (s70_R K)
theorem s70_p9_ok (K : Value → World → Prop) (B1 : List Value → World → Prop) (s : Nat → Value) (w : World) (h : s70_p9 K B1 (s 1) (s 3) (s 67) (s 68) (s 69) w) : Tr (s70_p9_den K (fun s w => B1 [s 1, s 3, s 67, s 68, s 69] w) s w) :=
  tr_simple (P := Tryz.prog) (codes := [(cd (Tryz.f70.body.getD .skip) [1, 1, 1, 1, 0, 1, 0, 1, 1, 1, 1, 1, 1, 1, 0, 1, 0, 1, 0, 0, 0]), (cd (Tryz.f70.body.getD .skip) [1, 1, 1, 1, 0, 1, 0, 1, 1, 1, 1, 1, 1, 1, 0, 1, 0, 1, 0, 0, 1, 0])]) (N := (fun s w => s70_p8 K B1 (s 1) (s 3) (s 67) (s 68) (s 69) w)) (N' := (s70_p8_den K (fun s w => B1 [s 1, s 3, s 67, s 68, s 69] w))) (X := (fun i => (bif Nat.beq i 1 then (fun s w => s70_p5 K (s 1) (s 3) w) else (bif Nat.beq i 0 then (fun s w => s70_p1 K (s 3) w) else (fun _ _ => False))))) (X' := (fun i => (bif Nat.beq i 1 then (s70_p5_den K) else (bif Nat.beq i 0 then (s70_p1_den K) else (fun _ _ => False))))) (R := s70_R K) (s := s) (w := w) (p := s70_p9 K B1 (s 1) (s 3) (s 67) (s 68) (s 69) w) (q := s70_p9_den K (fun s w => B1 [s 1, s 3, s 67, s 68, s 69] w) s w) (fun s w h => s70_p8_ok K B1 s w @h) (fun i => (tr_bif (fun s w h => s70_p5_ok K s w @h) (tr_bif (fun s w h => s70_p1_ok K s w @h) tr_id))) (by kernel_rfl) (by kernel_rfl) @h
def s70_p10_F (K : Value → World → Prop) (B1 : List Value → World → Prop) (l : List Value) (w : World) : Prop :=
  match l with
  | [t1, t3, t67, t68, t69] => s70_p9 K B1 t1 t3 t67 t68 t69 w
  | _ => False
theorem s70_p10_Fe {K : Value → World → Prop} {B1 : List Value → World → Prop} {t1 t3 t67 t68 t69 : Value} {w : World} : s70_p10_F K B1 [t1, t3, t67, t68, t69] w = s70_p9 K B1 t1 t3 t67 t68 t69 w := by kernel_rfl
def s70_p10 (K : Value → World → Prop) (t1 t3 t67 t68 t69 : Value) (w : World) : Prop :=
  LoopL (s70_p10_F K) [t1, t3, t67, t68, t69] w
def s70_p10_den (K : Value → World → Prop) : (Nat → Value) → World → Prop := fun s w => LoopP (fun M1 s w => s70_p9_den K M1 s w) s w
theorem s70_p10_ok (K : Value → World → Prop) (s : Nat → Value) (w : World) (h : s70_p10 K (s 1) (s 3) (s 67) (s 68) (s 69) w) : Tr (s70_p10_den K s w) :=
  tr_loop (G := fun N' s w => s70_p9_den K N' s w) (F := s70_p10_F K) (sel := fun s => [s 1, s 3, s 67, s 68, s 69]) (s := s) (w := w) (p := s70_p10 K (s 1) (s 3) (s 67) (s 68) (s 69) w) (q := s70_p10_den K s w) (fun B s w h => s70_p9_ok K B s w @h) (by kernel_rfl) (by kernel_rfl) @h
def s70_p11 (K : Value → World → Prop) (t1 t3 : Value) (w : World) : Prop :=
  fd 6 t1 (fun t63 w =>
  ld1 t63 (fun t64 w =>
  cl Tryz.prog 92 #[t3, (.string ⟨#[110, 111, 119]⟩), t64] (fun t65 w =>
  fd 7 t1 (fun t66 w =>
  ld1 t66 (fun t67 w =>
  lnS t67 (fun t68 w =>
  s70_p10 K t1 t3 t67 t68 (.int .i64 0) w) w) w) w) w) w) w
def s70_p11_den (K : Value → World → Prop) : (Nat → Value) → World → Prop := denL Tryz.prog [(cd (Tryz.f70.body.getD .skip) [1, 1, 1, 1, 0, 1, 0, 1, 1, 1, 1, 1, 1, 1, 0, 0]), (cd (Tryz.f70.body.getD .skip) [1, 1, 1, 1, 0, 1, 0, 1, 1, 1, 1, 1, 1, 1, 0, 1, 0, 0])] (s70_p10_den K) (fun i => (bif Nat.beq i 0 then (s70_p1_den K) else (fun _ _ => False))) (s70_R K)
theorem s70_p11_ok (K : Value → World → Prop) (s : Nat → Value) (w : World) (h : s70_p11 K (s 1) (s 3) w) : Tr (s70_p11_den K s w) :=
  tr_simple (P := Tryz.prog) (codes := [(cd (Tryz.f70.body.getD .skip) [1, 1, 1, 1, 0, 1, 0, 1, 1, 1, 1, 1, 1, 1, 0, 0]), (cd (Tryz.f70.body.getD .skip) [1, 1, 1, 1, 0, 1, 0, 1, 1, 1, 1, 1, 1, 1, 0, 1, 0, 0])]) (N := (fun s w => s70_p10 K (s 1) (s 3) (s 67) (s 68) (s 69) w)) (N' := (s70_p10_den K)) (X := (fun i => (bif Nat.beq i 0 then (fun s w => s70_p1 K (s 3) w) else (fun _ _ => False)))) (X' := (fun i => (bif Nat.beq i 0 then (s70_p1_den K) else (fun _ _ => False)))) (R := s70_R K) (s := s) (w := w) (p := s70_p11 K (s 1) (s 3) w) (q := s70_p11_den K s w) (fun s w h => s70_p10_ok K s w @h) (fun i => (tr_bif (fun s w h => s70_p1_ok K s w @h) tr_id)) (by kernel_rfl) (by kernel_rfl) @h
def s70_p12 (K : Value → World → Prop) (t1 t3 : Value) (w : World) : Prop :=
  fd 1 t1 (fun t109 w =>
  ld1 t109 (fun t110 w =>
  boI .eql t110 (.int .u8 17) (fun t111 w =>
  ifb t111
  (fd 12 t1 (fun t113 w =>
  ld1 t113 (fun t114 w =>
  cl Tryz.prog 92 #[t3, (.string ⟨#[110, 101, 120, 116]⟩), t114] (fun t115 w =>
  s70_p1 K t3 w) w) w) w)
  (s70_p1 K t3 w)) w) w) w
def s70_p12_den (K : Value → World → Prop) : (Nat → Value) → World → Prop := denL Tryz.prog [(cd (Tryz.f70.body.getD .skip) [1, 1, 1, 1, 0, 1, 0, 1, 1, 1, 1, 1, 1, 1, 1, 1, 0, 1, 0]), (cd (Tryz.f70.body.getD .skip) [1, 1, 1, 1, 0, 1, 0, 1, 1, 1, 1, 1, 1, 1, 1, 1, 0, 1, 1])] (s70_p1_den K) (fun i => (bif Nat.beq i 0 then (s70_p1_den K) else (fun _ _ => False))) (s70_R K)
theorem s70_p12_ok (K : Value → World → Prop) (s : Nat → Value) (w : World) (h : s70_p12 K (s 1) (s 3) w) : Tr (s70_p12_den K s w) :=
  tr_simple (P := Tryz.prog) (codes := [(cd (Tryz.f70.body.getD .skip) [1, 1, 1, 1, 0, 1, 0, 1, 1, 1, 1, 1, 1, 1, 1, 1, 0, 1, 0]), (cd (Tryz.f70.body.getD .skip) [1, 1, 1, 1, 0, 1, 0, 1, 1, 1, 1, 1, 1, 1, 1, 1, 0, 1, 1])]) (N := (fun s w => s70_p1 K (s 3) w)) (N' := (s70_p1_den K)) (X := (fun i => (bif Nat.beq i 0 then (fun s w => s70_p1 K (s 3) w) else (fun _ _ => False)))) (X' := (fun i => (bif Nat.beq i 0 then (s70_p1_den K) else (fun _ _ => False)))) (R := s70_R K) (s := s) (w := w) (p := s70_p12 K (s 1) (s 3) w) (q := s70_p12_den K s w) (fun s w h => s70_p1_ok K s w @h) (fun i => (tr_bif (fun s w h => s70_p1_ok K s w @h) tr_id)) (by kernel_rfl) (by kernel_rfl) @h
def s70_p13 (K : Value → World → Prop) (B1 : List Value → World → Prop) (t1 t3 t99 t100 t101 : Value) (w : World) : Prop :=
  boI .lss t101 t100 (fun t102 w =>
  ifb t102
  (ixs 7 t99 t101 (fun t103 w =>
  ldn 7 t103 (fun t104 w =>
  nw 66 #[(.int .i64 0), (.int .i64 0), (.int .i64 0), (.int .i64 0), (.int .i64 0), (.int .i64 0), (.slice none 0 0)] (fun t7 w =>
  stn 7 t7 t104 (fun w =>
  ldn 7 t7 (fun t106 w =>
  cl Tryz.prog 103 #[t3, t106] (fun t107 w =>
  boI .add t101 (.int .i64 1) (fun t108 w =>
  B1 [t1, t3, t99, t100, t108] w) w) w) w) w) w) w) w)
  (s70_p12 K t1 t3 w)) w
def s70_p13_den (K : Value → World → Prop) (M1 : (Nat → Value) → World → Prop) : (Nat → Value) → World → Prop := denL Tryz.prog [(cd (Tryz.f70.body.getD .skip) [1, 1, 1, 1, 0, 1, 0, 1, 1, 1, 1, 1, 1, 1, 1, 1, 0, 0, 1, 0, 0, 0]), (cd (Tryz.f70.body.getD .skip) [1, 1, 1, 1, 0, 1, 0, 1, 1, 1, 1, 1, 1, 1, 1, 1, 0, 0, 1, 0, 0, 1, 0]), (cd (Tryz.f70.body.getD .skip) [1, 1, 1, 1, 0, 1, 0, 1, 1, 1, 1, 1, 1, 1, 1, 1, 0, 0, 1, 0, 0, 1, 1, 0]), (cd (Tryz.f70.body.getD .skip) [1, 1, 1, 1, 0, 1, 0, 1, 1, 1, 1, 1, 1, 1, 1, 1, 0, 0, 1, 0, 0, 1, 1, 1])] M1 (fun i => (bif Nat.beq i 3 then (s70_p12_den K) else (bif Nat.beq i 0 then (s70_p1_den K) else (fun _ _ => False)))) (s70_R K)
theorem s70_p13_ok (K : Value → World → Prop) (B1 : List Value → World → Prop) (s : Nat → Value) (w : World) (h : s70_p13 K B1 (s 1) (s 3) (s 99) (s 100) (s 101) w) : Tr (s70_p13_den K (fun s w => B1 [s 1, s 3, s 99, s 100, s 101] w) s w) :=
  tr_simple (P := Tryz.prog) (codes := [(cd (Tryz.f70.body.getD .skip) [1, 1, 1, 1, 0, 1, 0, 1, 1, 1, 1, 1, 1, 1, 1, 1, 0, 0, 1, 0, 0, 0]), (cd (Tryz.f70.body.getD .skip) [1, 1, 1, 1, 0, 1, 0, 1, 1, 1, 1, 1, 1, 1, 1, 1, 0, 0, 1, 0, 0, 1, 0]), (cd (Tryz.f70.body.getD .skip) [1, 1, 1, 1, 0, 1, 0, 1, 1, 1, 1, 1, 1, 1, 1, 1, 0, 0, 1, 0, 0, 1, 1, 0]), (cd (Tryz.f70.body.getD .skip) [1, 1, 1, 1, 0, 1, 0, 1, 1, 1, 1, 1, 1, 1, 1, 1, 0, 0, 1, 0, 0, 1, 1, 1])]) (N := (fun s w => B1 [s 1, s 3, s 99, s 100, s 101] w)) (N' := (fun s w => B1 [s 1, s 3, s 99, s 100, s 101] w)) (X := (fun i => (bif Nat.beq i 3 then (fun s w => s70_p12 K (s 1) (s 3) w) else (bif Nat.beq i 0 then (fun s w => s70_p1 K (s 3) w) else (fun _ _ => False))))) (X' := (fun i => (bif Nat.beq i 3 then (s70_p12_den K) else (bif Nat.beq i 0 then (s70_p1_den K) else (fun _ _ => False))))) (R := s70_R K) (s := s) (w := w) (p := s70_p13 K B1 (s 1) (s 3) (s 99) (s 100) (s 101) w) (q := s70_p13_den K (fun s w => B1 [s 1, s 3, s 99, s 100, s 101] w) s w) tr_id (fun i => (tr_bif (fun s w h => s70_p12_ok K s w @h) (tr_bif (fun s w h => s70_p1_ok K s w @h) tr_id))) (by kernel_rfl) (by kernel_rfl) @h
def s70_p14_F (K : Value → World → Prop) (B1 : List Value → World → Prop) (l : List Value) (w : World) : Prop :=
  match l with
  | [t1, t3, t99, t100, t101] => s70_p13 K B1 t1 t3 t99 t100 t101 w
  | _ => False
theorem s70_p14_Fe {K : Value → World → Prop} {B1 : List Value → World → Prop} {t1 t3 t99 t100 t101 : Value} {w : World} : s70_p14_F K B1 [t1, t3, t99, t100, t101] w = s70_p13 K B1 t1 t3 t99 t100 t101 w := by kernel_rfl
def s70_p14 (K : Value → World → Prop) (t1 t3 t99 t100 t101 : Value) (w : World) : Prop :=
  LoopL (s70_p14_F K) [t1, t3, t99, t100, t101] w
def s70_p14_den (K : Value → World → Prop) : (Nat → Value) → World → Prop := fun s w => LoopP (fun M1 s w => s70_p13_den K M1 s w) s w
theorem s70_p14_ok (K : Value → World → Prop) (s : Nat → Value) (w : World) (h : s70_p14 K (s 1) (s 3) (s 99) (s 100) (s 101) w) : Tr (s70_p14_den K s w) :=
  tr_loop (G := fun N' s w => s70_p13_den K N' s w) (F := s70_p14_F K) (sel := fun s => [s 1, s 3, s 99, s 100, s 101]) (s := s) (w := w) (p := s70_p14 K (s 1) (s 3) (s 99) (s 100) (s 101) w) (q := s70_p14_den K s w) (fun B s w h => s70_p13_ok K B s w @h) (by kernel_rfl) (by kernel_rfl) @h
def s70_p15 (K : Value → World → Prop) (t1 t3 : Value) (w : World) : Prop :=
  fd 11 t1 (fun t98 w =>
  ld1 t98 (fun t99 w =>
  lnS t99 (fun t100 w =>
  s70_p14 K t1 t3 t99 t100 (.int .i64 0) w) w) w) w
def s70_p15_den (K : Value → World → Prop) : (Nat → Value) → World → Prop := denL Tryz.prog [(cd (Tryz.f70.body.getD .skip) [1, 1, 1, 1, 0, 1, 0, 1, 1, 1, 1, 1, 1, 1, 1, 1, 0, 0, 0])] (s70_p14_den K) (fun i => (bif Nat.beq i 0 then (s70_p1_den K) else (fun _ _ => False))) (s70_R K)
theorem s70_p15_ok (K : Value → World → Prop) (s : Nat → Value) (w : World) (h : s70_p15 K (s 1) (s 3) w) : Tr (s70_p15_den K s w) :=
  tr_simple (P := Tryz.prog) (codes := [(cd (Tryz.f70.body.getD .skip) [1, 1, 1, 1, 0, 1, 0, 1, 1, 1, 1, 1, 1, 1, 1, 1, 0, 0, 0])]) (N := (fun s w => s70_p14 K (s 1) (s 3) (s 99) (s 100) (s 101) w)) (N' := (s70_p14_den K)) (X := (fun i => (bif Nat.beq i 0 then (fun s w => s70_p1 K (s 3) w) else (fun _ _ => False)))) (X' := (fun i => (bif Nat.beq i 0 then (s70_p1_den K) else (fun _ _ => False)))) (R := s70_R K) (s := s) (w := w) (p := s70_p15 K (s 1) (s 3) w) (q := s70_p15_den K s w) (fun s w h => s70_p14_ok K s w @h) (fun i => (tr_bif (fun s w h => s70_p1_ok K s w @h) tr_id)) (by kernel_rfl) (by kernel_rfl) @h
def s70_p16_d (K : Value → World → Prop) (J : World → Prop) (t1 t3 : Value) (w0 w : World) : Prop :=
  fd 13 t1 (fun t119 _ =>
  Go.Sh.R.qw J (ld1 t119) (fun t120 =>
  fd 14 t1 (fun t122 _ =>
  sla 3 1 t122 none none (fun t123 _ =>
  fd 17 t1 (fun t125 _ =>
  Go.Sh.R.qw J (ld1 t125) (fun t126 =>
  cl Tryz.prog 92 #[t3, (.string ⟨#[111, 99, 99, 117, 112, 97, 110, 99, 121]⟩), t120] (fun t121 w =>
  J w ∧
  cl Tryz.prog 104 #[t121, (.string ⟨#[101, 110, 116, 101, 114, 101, 100]⟩), t123] (fun t124 w =>
  J w ∧
  cl Tryz.prog 92 #[t124, (.string ⟨#[102, 114, 101, 101]⟩), t126] (fun t127 w =>
  s70_p1 K t3 w) w) w) w)) w0) w0) w0)) w0
def s70_p16 (K : Value → World → Prop) (t1 t3 : Value) (w : World) : Prop := ∃ J : World → Prop, J (drw w) ∧ s70_p16_d K J t1 t3 (drw w) (drw w)
def s70_p16_den (K : Value → World → Prop) : (Nat → Value) → World → Prop := denL Tryz.prog [(cd (Tryz.f70.body.getD .skip) [1, 1, 1, 1, 0, 1, 0, 1, 1, 1, 1, 1, 1, 1, 1, 1, 1, 1, 0])] (s70_p1_den K) (fun i => (bif Nat.beq i 0 then (s70_p1_den K) else (fun _ _ => False))) (s70_R K)
theorem s70_p16_ok (K : Value → World → Prop) (s : Nat → Value) (w : World) (h : s70_p16 K (s 1) (s 3) w) : Tr (s70_p16_den K s w) :=
  Go.Sh.R.tr_drawR (P := Tryz.prog) (ops := (ro (cd (Tryz.f70.body.getD .skip) [1, 1, 1, 1, 0, 1, 0, 1, 1, 1, 1, 1, 1, 1, 1, 1, 1, 1, 0]))) (ms := [0, 0, 2, 7, 0, 16, 63, 0, 128, 511]) (cs := [0, 1, 2, 4, 5, 7, 8]) (N := (fun s w => s70_p1 K (s 3) w)) (N' := (s70_p1_den K)) (s := s) (w := w) (p := fun J => s70_p16_d K J (s 1) (s 3) (drw w) (drw w)) (q := s70_p16_den K s w) (by kernel_rfl) (by kernel_rfl) (fun s w h => s70_p1_ok K s w @h) (by kernel_rfl) (by kernel_rfl) @h
def s70_p17 (K : Value → World → Prop) (t1 t3 : Value) (w : World) : Prop :=
  fd 18 t1 (fun t131 w =>
  ld1 t131 (fun t132 w =>
  cl Tryz.prog 104 #[t3, (.string ⟨#[119, 97, 105, 116, 105, 110, 103]⟩), t132] (fun t133 w =>
  s70_p1 K t3 w) w) w) w
def s70_p17_den (K : Value → World → Prop) : (Nat → Value) → World → Prop := denL Tryz.prog [(cd (Tryz.f70.body.getD .skip) [1, 1, 1, 1, 0, 1, 0, 1, 1, 1, 1, 1, 1, 1, 1, 1, 1, 1, 1, 1, 0])] (s70_p1_den K) (fun i => (bif Nat.beq i 0 then (s70_p1_den K) else (fun _ _ => False))) (s70_R K)
theorem s70_p17_ok (K : Value → World → Prop) (s : Nat → Value) (w : World) (h : s70_p17 K (s 1) (s 3) w) : Tr (s70_p17_den K s w) :=
  tr_simple (P := Tryz.prog) (codes := [(cd (Tryz.f70.body.getD .skip) [1, 1, 1, 1, 0, 1, 0, 1, 1, 1, 1, 1, 1, 1, 1, 1, 1, 1, 1, 1, 0])]) (N := (fun s w => s70_p1 K (s 3) w)) (N' := (s70_p1_den K)) (X := (fun i => (bif Nat.beq i 0 then (fun s w => s70_p1 K (s 3) w) else (fun _ _ => False)))) (X' := (fun i => (bif Nat.beq i 0 then (s70_p1_den K) else (fun _ _ => False)))) (R := s70_R K) (s := s) (w := w) (p := s70_p17 K (s 1) (s 3) w) (q := s70_p17_den K s w) (fun s w h => s70_p1_ok K s w @h) (fun i => (tr_bif (fun s w h => s70_p1_ok K s w @h) tr_id)) (by kernel_rfl) (by kernel_rfl) @h
def s70_p18_d (K : Value → World → Prop) (J : World → Prop) (t1 t3 : Value) (w0 w : World) : Prop :=
  fd 6 t1 (fun t137 _ =>
  Go.Sh.R.qw J (ld1 t137) (fun t138 =>
  fd 19 t1 (fun t140 _ =>
  Go.Sh.R.qw J (ld1 t140) (fun t141 =>
  fd 20 t1 (fun t143 _ =>
  Go.Sh.R.qw J (ld1 t143) (fun t144 =>
  cl Tryz.prog 92 #[t3, (.string ⟨#[110, 111, 119]⟩), t138] (fun t139 w =>
  J w ∧
  cl Tryz.prog 92 #[t139, (.string ⟨#[108, 97, 115, 116]⟩), t141] (fun t142 w =>
  J w ∧
  cl Tryz.prog 92 #[t142, (.string ⟨#[103, 114, 97, 110, 116, 101, 100]⟩), t144] (fun t145 w =>
  s70_p1 K t3 w) w) w) w)) w0)) w0)) w0
def s70_p18 (K : Value → World → Prop) (t1 t3 : Value) (w : World) : Prop := ∃ J : World → Prop, J (drw w) ∧ s70_p18_d K J t1 t3 (drw w) (drw w)
def s70_p18_den (K : Value → World → Prop) : (Nat → Value) → World → Prop := denL Tryz.prog [(cd (Tryz.f70.body.getD .skip) [1, 1, 1, 1, 0, 1, 0, 1, 1, 1, 1, 1, 1, 1, 1, 1, 1, 1, 1, 1, 1, 1, 0])] (s70_p1_den K) (fun i => (bif Nat.beq i 0 then (s70_p1_den K) else (fun _ _ => False))) (s70_R K)
theorem s70_p18_ok (K : Value → World → Prop) (s : Nat → Value) (w : World) (h : s70_p18 K (s 1) (s 3) w) : Tr (s70_p18_den K s w) :=
  Go.Sh.R.tr_drawR (P := Tryz.prog) (ops := (ro (cd (Tryz.f70.body.getD .skip) [1, 1, 1, 1, 0, 1, 0, 1, 1, 1, 1, 1, 1, 1, 1, 1, 1, 1, 1, 1, 1, 1, 0]))) (ms := [0, 0, 2, 7, 0, 16, 63, 0, 128, 511]) (cs := [0, 1, 2, 4, 5, 7, 8]) (N := (fun s w => s70_p1 K (s 3) w)) (N' := (s70_p1_den K)) (s := s) (w := w) (p := fun J => s70_p18_d K J (s 1) (s 3) (drw w) (drw w)) (q := s70_p18_den K s w) (by kernel_rfl) (by kernel_rfl) (fun s w h => s70_p1_ok K s w @h) (by kernel_rfl) (by kernel_rfl) @h
def s70_p19 (K : Value → World → Prop) (t1 t3 : Value) (w : World) : Prop :=
  fd 21 t1 (fun t149 w =>
  ld1 t149 (fun t150 w =>
  cl Tryz.prog 92 #[t3, (.string ⟨#[115, 108, 111, 116]⟩), t150] (fun t151 w =>
  s70_p1 K t3 w) w) w) w
def s70_p19_den (K : Value → World → Prop) : (Nat → Value) → World → Prop := denL Tryz.prog [(cd (Tryz.f70.body.getD .skip) [1, 1, 1, 1, 0, 1, 0, 1, 1, 1, 1, 1, 1, 1, 1, 1, 1, 1, 1, 1, 1, 1, 1, 1, 0])] (s70_p1_den K) (fun i => (bif Nat.beq i 0 then (s70_p1_den K) else (fun _ _ => False))) (s70_R K)
theorem s70_p19_ok (K : Value → World → Prop) (s : Nat → Value) (w : World) (h : s70_p19 K (s 1) (s 3) w) : Tr (s70_p19_den K s w) :=
  tr_simple (P := Tryz.prog) (codes := [(cd (Tryz.f70.body.getD .skip) [1, 1, 1, 1, 0, 1, 0, 1, 1, 1, 1, 1, 1, 1, 1, 1, 1, 1, 1, 1, 1, 1, 1, 1, 0])]) (N := (fun s w => s70_p1 K (s 3) w)) (N' := (s70_p1_den K)) (X := (fun i => (bif Nat.beq i 0 then (fun s w => s70_p1 K (s 3) w) else (fun _ _ => False)))) (X' := (fun i => (bif Nat.beq i 0 then (s70_p1_den K) else (fun _ _ => False)))) (R := s70_R K) (s := s) (w := w) (p := s70_p19 K (s 1) (s 3) w) (q := s70_p19_den K s w) (fun s w h => s70_p1_ok K s w @h) (fun i => (tr_bif (fun s w h => s70_p1_ok K s w @h) tr_id)) (by kernel_rfl) (by kernel_rfl) @h
def s70_p20 (K : Value → World → Prop) (B1 : List Value → World → Prop) (t1 t3 t8 : Value) (w : World) : Prop :=
  boI .add t8 (.int .i64 1) (fun t157 w =>
  B1 [t1, t3, t157] w) w
def s70_p20_den (K : Value → World → Prop) (M1 : (Nat → Value) → World → Prop) : (Nat → Value) → World → Prop := denL Tryz.prog [(cd (Tryz.f70.body.getD .skip) [1, 1, 1, 1, 0, 1, 0, 1, 1, 1, 1, 1, 1, 1, 1, 1, 1, 1, 1, 1, 1, 1, 1, 1, 1, 1, 0, 1, 0, 0, 1, 1])] M1 (fun i => (bif Nat.beq i 5 then (s70_p1_den K) else (bif Nat.beq i 0 then (s70_p1_den K) else (fun _ _ => False)))) (s70_R K)
theorem s70_p20_ok (K : Value → World → Prop) (B1 : List Value → World → Prop) (s : Nat → Value) (w : World) (h : s70_p20 K B1 (s 1) (s 3) (s 8) w) : Tr (s70_p20_den K (fun s w => B1 [s 1, s 3, s 8] w) s w) :=
  tr_simple (P := Tryz.prog) (codes := [(cd (Tryz.f70.body.getD .skip) [1, 1, 1, 1, 0, 1, 0, 1, 1, 1, 1, 1, 1, 1, 1, 1, 1, 1, 1, 1, 1, 1, 1, 1, 1, 1, 0, 1, 0, 0, 1, 1])]) (N := (fun s w => B1 [s 1, s 3, s 8] w)) (N' := (fun s w => B1 [s 1, s 3, s 8] w)) (X := (fun i => (bif Nat.beq i 5 then (fun s w => s70_p1 K (s 3) w) else (bif Nat.beq i 0 then (fun s w => s70_p1 K (s 3) w) else (fun _ _ => False))))) (X' := (fun i => (bif Nat.beq i 5 then (s70_p1_den K) else (bif Nat.beq i 0 then (s70_p1_den K) else (fun _ _ => False))))) (R := s70_R K) (s := s) (w := w) (p := s70_p20 K B1 (s 1) (s 3) (s 8) w) (q := s70_p20_den K (fun s w => B1 [s 1, s 3, s 8] w) s w) tr_id (fun i => (tr_bif (fun s w h => s70_p1_ok K s w @h) (tr_bif (fun s w h => s70_p1_ok K s w @h) tr_id))) (by kernel_rfl) (by kernel_rfl) @h
def s70_p21_d (K : Value → World → Prop) (B1 : List Value → World → Prop) (J : World → Prop) (t1 t3 t8 : Value) (w0 w : World) : Prop :=
  fd 22 t1 (fun t162 _ =>
  ixa 10 1 t162 t8 (fun t163 _ =>
  Go.Sh.R.qw J (ld1 t163) (fun t164 =>
  cl Tryz.prog 102 #[t8] (fun t160 w =>
  J w ∧
  cl Tryz.prog 92 #[t3, t160, t164] (fun t165 w =>
  s70_p20 K B1 t1 t3 t8 w) w) w)) w0) w0
def s70_p21 (K : Value → World → Prop) (B1 : List Value → World → Prop) (t1 t3 t8 : Value) (w : World) : Prop := ∃ J : World → Prop, J (drw w) ∧ s70_p21_d K B1 J t1 t3 t8 (drw w) (drw w)
def s70_p21_den (K : Value → World → Prop) (M1 : (Nat → Value) → World → Prop) : (Nat → Value) → World → Prop := denL Tryz.prog [(cd (Tryz.f70.body.getD .skip) [1, 1, 1, 1, 0, 1, 0, 1, 1, 1, 1, 1, 1, 1, 1, 1, 1, 1, 1, 1, 1, 1, 1, 1, 1, 1, 0, 1, 0, 0, 1, 0, 0])] (s70_p20_den K M1) (fun i => (bif Nat.beq i 6 then (s70_p20_den K M1) else (bif Nat.beq i 5 then (s70_p1_den K) else (bif Nat.beq i 0 then (s70_p1_den K) else (fun _ _ => False))))) (s70_R K)
theorem s70_p21_ok (K : Value → World → Prop) (B1 : List Value → World → Prop) (s : Nat → Value) (w : World) (h : s70_p21 K B1 (s 1) (s 3) (s 8) w) : Tr (s70_p21_den K (fun s w => B1 [s 1, s 3, s 8] w) s w) :=
  Go.Sh.R.tr_drawR (P := Tryz.prog) (ops := (ro (cd (Tryz.f70.body.getD .skip) [1, 1, 1, 1, 0, 1, 0, 1, 1, 1, 1, 1, 1, 1, 1, 1, 1, 1, 1, 1, 1, 1, 1, 1, 1, 1, 0, 1, 0, 0, 1, 0, 0]))) (ms := [0, 0, 2, 0, 0, 24, 56, 127]) (cs := [0, 1, 3, 4, 5, 6]) (N := (fun s w => s70_p20 K B1 (s 1) (s 3) (s 8) w)) (N' := (s70_p20_den K (fun s w => B1 [s 1, s 3, s 8] w))) (s := s) (w := w) (p := fun J => s70_p21_d K B1 J (s 1) (s 3) (s 8) (drw w) (drw w)) (q := s70_p21_den K (fun s w => B1 [s 1, s 3, s 8] w) s w) (by kernel_rfl) (by kernel_rfl) (fun s w h => s70_p20_ok K B1 s w @h) (by kernel_rfl) (by kernel_rfl) @h
def s70_p22 (K : Value → World → Prop) (B1 : List Value → World → Prop) (t1 t3 t8 : Value) (w : World) : Prop :=
  boI .lss t8 (.int .i64 10) (fun t155 w =>
  ifb t155
  (s70_p21 K B1 t1 t3 t8 w)
  (s70_p1 K t3 w)) w
def s70_p22_den (K : Value → World → Prop) (M1 : (Nat → Value) → World → Prop) : (Nat → Value) → World → Prop := denL Tryz.prog [(cd (Tryz.f70.body.getD .skip) [1, 1, 1, 1, 0, 1, 0, 1, 1, 1, 1, 1, 1, 1, 1, 1, 1, 1, 1, 1, 1, 1, 1, 1, 1, 1, 0, 1, 0, 0, 0, 0]), (cd (Tryz.f70.body.getD .skip) [1, 1, 1, 1, 0, 1, 0, 1, 1, 1, 1, 1, 1, 1, 1, 1, 1, 1, 1, 1, 1, 1, 1, 1, 1, 1, 0, 1, 0, 0, 0, 1])] (s70_p21_den K M1) (fun i => (bif Nat.beq i 5 then (s70_p1_den K) else (bif Nat.beq i 0 then (s70_p1_den K) else (fun _ _ => False)))) (s70_R K)
theorem s70_p22_ok (K : Value → World → Prop) (B1 : List Value → World → Prop) (s : Nat → Value) (w : World) (h : s70_p22 K B1 (s 1) (s 3) (s 8) w) : Tr (s70_p22_den K (fun s w => B1 [s 1, s 3, s 8] w) s w) :=
  tr_simple (P := Tryz.prog) (codes := [(cd (Tryz.f70.body.getD .skip) [1, 1, 1, 1, 0, 1, 0, 1, 1, 1, 1, 1, 1, 1, 1, 1, 1, 1, 1, 1, 1, 1, 1, 1, 1, 1, 0, 1, 0, 0, 0, 0]), (cd (Tryz.f70.body.getD .skip) [1, 1, 1, 1, 0, 1, 0, 1, 1, 1, 1, 1, 1, 1, 1, 1, 1, 1, 1, 1, 1, 1, 1, 1, 1, 1, 0, 1, 0, 0, 0, 1])]) (N := (fun s w => s70_p21 K B1 (s 1) (s 3) (s 8) w)) (N' := (s70_p21_den K (fun s w => B1 [s 1, s 3, s 8] w))) (X := (fun i => (bif Nat.beq i 5 then (fun s w => s70_p1 K (s 3) w) else (bif Nat.beq i 0 then (fun s w => s70_p1 K (s 3) w) else (fun _ _ => False))))) (X' := (fun i => (bif Nat.beq i 5 then (s70_p1_den K) else (bif Nat.beq i 0 then (s70_p1_den K) else (fun _ _ => False))))) (R := s70_R K) (s := s) (w := w) (p := s70_p22 K B1 (s 1) (s 3) (s 8) w) (q := s70_p22_den K (fun s w => B1 [s 1, s 3, s 8] w) s w) (fun s w h => s70_p21_ok K B1 s w @h) (fun i => (tr_bif (fun s w h => s70_p1_ok K s w @h) (tr_bif (fun s w h => s70_p1_ok K s w @h) tr_id))) (by kernel_rfl) (by kernel_rfl) @h
def s70_p23_F (K : Value → World → Prop) (B1 : List Value → World → Prop) (l : List Value) (w : World) : Prop :=
  match l with
  | [t1, t3, t8] => s70_p22 K B1 t1 t3 t8 w
  | _ => False
theorem s70_p23_Fe {K : Value → World → Prop} {B1 : List Value → World → Prop} {t1 t3 t8 : Value} {w : World} : s70_p23_F K B1 [t1, t3, t8] w = s70_p22 K B1 t1 t3 t8 w := by kernel_rfl
def s70_p23 (K : Value → World → Prop) (t1 t3 t8 : Value) (w : World) : Prop :=
  LoopL (s70_p23_F K) [t1, t3, t8] w
def s70_p23_den (K : Value → World → Prop) : (Nat → Value) → World → Prop := fun s w => LoopP (fun M1 s w => s70_p22_den K M1 s w) s w
theorem s70_p23_ok (K : Value → World → Prop) (s : Nat → Value) (w : World) (h : s70_p23 K (s 1) (s 3) (s 8) w) : Tr (s70_p23_den K s w) :=
  tr_loop (G := fun N' s w => s70_p22_den K N' s w) (F := s70_p23_F K) (sel := fun s => [s 1, s 3, s 8]) (s := s) (w := w) (p := s70_p23 K (s 1) (s 3) (s 8) w) (q := s70_p23_den K s w) (fun B s w h => s70_p22_ok K B s w @h) (by kernel_rfl) (by kernel_rfl) @h
def s70_p24 (K : Value → World → Prop) (t1 t3 : Value) (w : World) : Prop :=
  s70_p23 K t1 t3 (.int .i64 1) w
def s70_p24_den (K : Value → World → Prop) : (Nat → Value) → World → Prop := denL Tryz.prog [(cd (Tryz.f70.body.getD .skip) [1, 1, 1, 1, 0, 1, 0, 1, 1, 1, 1, 1, 1, 1, 1, 1, 1, 1, 1, 1, 1, 1, 1, 1, 1, 1, 0, 0])] (s70_p23_den K) (fun i => (bif Nat.beq i 0 then (s70_p1_den K) else (fun _ _ => False))) (s70_R K)
theorem s70_p24_ok (K : Value → World → Prop) (s : Nat → Value) (w : World) (h : s70_p24 K (s 1) (s 3) w) : Tr (s70_p24_den K s w) :=
  tr_simple (P := Tryz.prog) (codes := [(cd (Tryz.f70.body.getD .skip) [1, 1, 1, 1, 0, 1, 0, 1, 1, 1, 1, 1, 1, 1, 1, 1, 1, 1, 1, 1, 1, 1, 1, 1, 1, 1, 0, 0])]) (N := (fun s w => s70_p23 K (s 1) (s 3) (s 8) w)) (N' := (s70_p23_den K)) (X := (fun i => (bif Nat.beq i 0 then (fun s w => s70_p1 K (s 3) w) else (fun _ _ => False)))) (X' := (fun i => (bif Nat.beq i 0 then (s70_p1_den K) else (fun _ _ => False)))) (R := s70_R K) (s := s) (w := w) (p := s70_p24 K (s 1) (s 3) w) (q := s70_p24_den K s w) (fun s w h => s70_p23_ok K s w @h) (fun i => (tr_bif (fun s w h => s70_p1_ok K s w @h) tr_id)) (by kernel_rfl) (by kernel_rfl) @h
def s70_p25_d (K : Value → World → Prop) (J : World → Prop) (t1 t3 : Value) (w0 w : World) : Prop :=
  fd 32 t1 (fun t169 _ =>
  Go.Sh.R.qw J (ld1 t169) (fun t170 =>
  fd 4 t1 (fun t172 _ =>
  Go.Sh.R.qw J (ld1 t172) (fun t173 =>
  fd 33 t1 (fun t175 _ =>
  Go.Sh.R.qw J (ld1 t175) (fun t176 =>
  cl Tryz.prog 92 #[t3, (.string ⟨#[97, 116, 116, 114, 97, 99, 116, 105, 111, 110]⟩), t170] (fun t171 w =>
  J w ∧
  cl Tryz.prog 92 #[t171, (.string ⟨#[112, 111, 115, 105, 116, 105, 111, 110]⟩), t173] (fun t174 w =>
  J w ∧
  cl Tryz.prog 92 #[t174, (.string ⟨#[97, 104, 101, 97, 100]⟩), t176] (fun t177 w =>
  s70_p1 K t3 w) w) w) w)) w0)) w0)) w0
def s70_p25 (K : Value → World → Prop) (t1 t3 : Value) (w : World) : Prop := ∃ J : World → Prop, J (drw w) ∧ s70_p25_d K J t1 t3 (drw w) (drw w)
def s70_p25_den (K : Value → World → Prop) : (Nat → Value) → World → Prop := denL Tryz.prog [(cd (Tryz.f70.body.getD .skip) [1, 1, 1, 1, 0, 1, 0, 1, 1, 1, 1, 1, 1, 1, 1, 1, 1, 1, 1, 1, 1, 1, 1, 1, 1, 1, 1, 1, 0])] (s70_p1_den K) (fun i => (bif Nat.beq i 0 then (s70_p1_den K) else (fun _ _ => False))) (s70_R K)
theorem s70_p25_ok (K : Value → World → Prop) (s : Nat → Value) (w : World) (h : s70_p25 K (s 1) (s 3) w) : Tr (s70_p25_den K s w) :=
  Go.Sh.R.tr_drawR (P := Tryz.prog) (ops := (ro (cd (Tryz.f70.body.getD .skip) [1, 1, 1, 1, 0, 1, 0, 1, 1, 1, 1, 1, 1, 1, 1, 1, 1, 1, 1, 1, 1, 1, 1, 1, 1, 1, 1, 1, 0]))) (ms := [0, 0, 2, 7, 0, 16, 63, 0, 128, 511]) (cs := [0, 1, 2, 4, 5, 7, 8]) (N := (fun s w => s70_p1 K (s 3) w)) (N' := (s70_p1_den K)) (s := s) (w := w) (p := fun J => s70_p25_d K J (s 1) (s 3) (drw w) (drw w)) (q := s70_p25_den K s w) (by kernel_rfl) (by kernel_rfl) (fun s w h => s70_p1_ok K s w @h) (by kernel_rfl) (by kernel_rfl) @h
def s70_p26 (K : Value → World → Prop) (t1 t3 t166 : Value) (w : World) : Prop :=
  ifb t166
  (s70_p25 K t1 t3 w)
  (s70_p1 K t3 w)
def s70_p26_den (K : Value → World → Prop) : (Nat → Value) → World → Prop := fun s w => ifb (ev s (.tmp 166)) ((s70_p25_den K) s w) ((s70_p1_den K) s w)
theorem s70_p26_ok (K : Value → World → Prop) (s : Nat → Value) (w : World) (h : s70_p26 K (s 1) (s 3) (s 166) w) : Tr (s70_p26_den K s w) :=
  tr_cond (v := ev s (.tmp 166)) (a := s70_p25 K (s 1) (s 3) w) (a' := s70_p25_den K s w) (b := s70_p1 K (s 3) w) (b' := s70_p1_den K s w) (p := s70_p26 K (s 1) (s 3) (s 166) w) (q := s70_p26_den K s w) (s70_p25_ok K s w) (s70_p1_ok K s w) (by kernel_rfl) (by kernel_rfl) @h
def s70_p27 (K : Value → World → Prop) (t1 t3 t28 : Value) (w : World) : Prop :=
  boI .eql t28 (.int .u8 24) (fun t167 w =>
  s70_p26 K t1 t3 t167 w) w
def s70_p27_den (K : Value → World → Prop) : (Nat → Value) → World → Prop := denL Tryz.prog [(cd (Tryz.f70.body.getD .skip) [1, 1, 1, 1, 0, 1, 0, 1, 1, 1, 1, 1, 1, 1, 1, 1, 1, 1, 1, 1, 1, 1, 1, 1, 1, 1, 1, 0])] (s70_p26_den K) (fun i => (bif Nat.beq i 0 then (s70_p1_den K) else (fun _ _ => False))) (s70_R K)
theorem s70_p27_ok (K : Value → World → Prop) (s : Nat → Value) (w : World) (h : s70_p27 K (s 1) (s 3) (s 28) w) : Tr (s70_p27_den K s w) :=
  tr_simple (P := Tryz.prog) (codes := [(cd (Tryz.f70.body.getD .skip) [1, 1, 1, 1, 0, 1, 0, 1, 1, 1, 1, 1, 1, 1, 1, 1, 1, 1, 1, 1, 1, 1, 1, 1, 1, 1, 1, 0])]) (N := (fun s w => s70_p26 K (s 1) (s 3) (s 166) w)) (N' := (s70_p26_den K)) (X := (fun i => (bif Nat.beq i 0 then (fun s w => s70_p1 K (s 3) w) else (fun _ _ => False)))) (X' := (fun i => (bif Nat.beq i 0 then (s70_p1_den K) else (fun _ _ => False)))) (R := s70_R K) (s := s) (w := w) (p := s70_p27 K (s 1) (s 3) (s 28) w) (q := s70_p27_den K s w) (fun s w h => s70_p26_ok K s w @h) (fun i => (tr_bif (fun s w h => s70_p1_ok K s w @h) tr_id)) (by kernel_rfl) (by kernel_rfl) @h
def s70_p28 (K : Value → World → Prop) (t1 t3 t28 t152 : Value) (w : World) : Prop :=
  ifb t152
  (s70_p24 K t1 t3 w)
  (s70_p27 K t1 t3 t28 w)
def s70_p28_den (K : Value → World → Prop) : (Nat → Value) → World → Prop := fun s w => ifb (ev s (.tmp 152)) ((s70_p24_den K) s w) ((s70_p27_den K) s w)
theorem s70_p28_ok (K : Value → World → Prop) (s : Nat → Value) (w : World) (h : s70_p28 K (s 1) (s 3) (s 28) (s 152) w) : Tr (s70_p28_den K s w) :=
  tr_cond (v := ev s (.tmp 152)) (a := s70_p24 K (s 1) (s 3) w) (a' := s70_p24_den K s w) (b := s70_p27 K (s 1) (s 3) (s 28) w) (b' := s70_p27_den K s w) (p := s70_p28 K (s 1) (s 3) (s 28) (s 152) w) (q := s70_p28_den K s w) (s70_p24_ok K s w) (s70_p27_ok K s w) (by kernel_rfl) (by kernel_rfl) @h
def s70_p29 (K : Value → World → Prop) (t1 t3 t28 : Value) (w : World) : Prop :=
  boI .eql t28 (.int .u8 23) (fun t153 w =>
  s70_p28 K t1 t3 t28 t153 w) w
def s70_p29_den (K : Value → World → Prop) : (Nat → Value) → World → Prop := denL Tryz.prog [(cd (Tryz.f70.body.getD .skip) [1, 1, 1, 1, 0, 1, 0, 1, 1, 1, 1, 1, 1, 1, 1, 1, 1, 1, 1, 1, 1, 1, 1, 1, 1, 0])] (s70_p28_den K) (fun i => (bif Nat.beq i 0 then (s70_p1_den K) else (fun _ _ => False))) (s70_R K)
theorem s70_p29_ok (K : Value → World → Prop) (s : Nat → Value) (w : World) (h : s70_p29 K (s 1) (s 3) (s 28) w) : Tr (s70_p29_den K s w) :=
  tr_simple (P := Tryz.prog) (codes := [(cd (Tryz.f70.body.getD .skip) [1, 1, 1, 1, 0, 1, 0, 1, 1, 1, 1, 1, 1, 1, 1, 1, 1, 1, 1, 1, 1, 1, 1, 1, 1, 0])]) (N := (fun s w => s70_p28 K (s 1) (s 3) (s 28) (s 152) w)) (N' := (s70_p28_den K)) (X := (fun i => (bif Nat.beq i 0 then (fun s w => s70_p1 K (s 3) w) else (fun _ _ => False)))) (X' := (fun i => (bif Nat.beq i 0 then (s70_p1_den K) else (fun _ _ => False)))) (R := s70_R K) (s := s) (w := w) (p := s70_p29 K (s 1) (s 3) (s 28) w) (q := s70_p29_den K s w) (fun s w h => s70_p28_ok K s w @h) (fun i => (tr_bif (fun s w h => s70_p1_ok K s w @h) tr_id)) (by kernel_rfl) (by kernel_rfl) @h
def s70_p30 (K : Value → World → Prop) (t1 t3 t28 t146 : Value) (w : World) : Prop :=
  ifb t146
  (s70_p19 K t1 t3 w)
  (s70_p29 K t1 t3 t28 w)
def s70_p30_den (K : Value → World → Prop) : (Nat → Value) → World → Prop := fun s w => ifb (ev s (.tmp 146)) ((s70_p19_den K) s w) ((s70_p29_den K) s w)
theorem s70_p30_ok (K : Value → World → Prop) (s : Nat → Value) (w : World) (h : s70_p30 K (s 1) (s 3) (s 28) (s 146) w) : Tr (s70_p30_den K s w) :=
  tr_cond (v := ev s (.tmp 146)) (a := s70_p19 K (s 1) (s 3) w) (a' := s70_p19_den K s w) (b := s70_p29 K (s 1) (s 3) (s 28) w) (b' := s70_p29_den K s w) (p := s70_p30 K (s 1) (s 3) (s 28) (s 146) w) (q := s70_p30_den K s w) (s70_p19_ok K s w) (s70_p29_ok K s w) (by kernel_rfl) (by kernel_rfl) @h
def s70_p31 (K : Value → World → Prop) (t1 t3 t28 : Value) (w : World) : Prop :=
  boI .eql t28 (.int .u8 21) (fun t147 w =>
  s70_p30 K t1 t3 t28 t147 w) w
def s70_p31_den (K : Value → World → Prop) : (Nat → Value) → World → Prop := denL Tryz.prog [(cd (Tryz.f70.body.getD .skip) [1, 1, 1, 1, 0, 1, 0, 1, 1, 1, 1, 1, 1, 1, 1, 1, 1, 1, 1, 1, 1, 1, 1, 0])] (s70_p30_den K) (fun i => (bif Nat.beq i 0 then (s70_p1_den K) else (fun _ _ => False))) (s70_R K)
theorem s70_p31_ok (K : Value → World → Prop) (s : Nat → Value) (w : World) (h : s70_p31 K (s 1) (s 3) (s 28) w) : Tr (s70_p31_den K s w) :=
  tr_simple (P := Tryz.prog) (codes := [(cd (Tryz.f70.body.getD .skip) [1, 1, 1, 1, 0, 1, 0, 1, 1, 1, 1, 1, 1, 1, 1, 1, 1, 1, 1, 1, 1, 1, 1, 0])]) (N := (fun s w => s70_p30 K (s 1) (s 3) (s 28) (s 146) w)) (N' := (s70_p30_den K)) (X := (fun i => (bif Nat.beq i 0 then (fun s w => s70_p1 K (s 3) w) else (fun _ _ => False)))) (X' := (fun i => (bif Nat.beq i 0 then (s70_p1_den K) else (fun _ _ => False)))) (R := s70_R K) (s := s) (w := w) (p := s70_p31 K (s 1) (s 3) (s 28) w) (q := s70_p31_den K s w) (fun s w h => s70_p30_ok K s w @h) (fun i => (tr_bif (fun s w h => s70_p1_ok K s w @h) tr_id)) (by kernel_rfl) (by kernel_rfl) @h
def s70_p32 (K : Value → World → Prop) (t1 t3 t28 t134 : Value) (w : World) : Prop :=
  ifb t134
  (s70_p18 K t1 t3 w)
  (s70_p31 K t1 t3 t28 w)
def s70_p32_den (K : Value → World → Prop) : (Nat → Value) → World → Prop := fun s w => ifb (ev s (.tmp 134)) ((s70_p18_den K) s w) ((s70_p31_den K) s w)
theorem s70_p32_ok (K : Value → World → Prop) (s : Nat → Value) (w : World) (h : s70_p32 K (s 1) (s 3) (s 28) (s 134) w) : Tr (s70_p32_den K s w) :=
  tr_cond (v := ev s (.tmp 134)) (a := s70_p18 K (s 1) (s 3) w) (a' := s70_p18_den K s w) (b := s70_p31 K (s 1) (s 3) (s 28) w) (b' := s70_p31_den K s w) (p := s70_p32 K (s 1) (s 3) (s 28) (s 134) w) (q := s70_p32_den K s w) (s70_p18_ok K s w) (s70_p31_ok K s w) (by kernel_rfl) (by kernel_rfl) @h
def s70_p33 (K : Value → World → Prop) (t1 t3 t28 : Value) (w : World) : Prop :=
  boI .eql t28 (.int .u8 20) (fun t135 w =>
  s70_p32 K t1 t3 t28 t135 w) w
def s70_p33_den (K : Value → World → Prop) : (Nat → Value) → World → Prop := denL Tryz.prog [(cd (Tryz.f70.body.getD .skip) [1, 1, 1, 1, 0, 1, 0, 1, 1, 1, 1, 1, 1, 1, 1, 1, 1, 1, 1, 1, 1, 0])] (s70_p32_den K) (fun i => (bif Nat.beq i 0 then (s70_p1_den K) else (fun _ _ => False))) (s70_R K)
theorem s70_p33_ok (K : Value → World → Prop) (s : Nat → Value) (w : World) (h : s70_p33 K (s 1) (s 3) (s 28) w) : Tr (s70_p33_den K s w) :=
  tr_simple (P := Tryz.prog) (codes := [(cd (Tryz.f70.body.getD .skip) [1, 1, 1, 1, 0, 1, 0, 1, 1, 1, 1, 1, 1, 1, 1, 1, 1, 1, 1, 1, 1, 0])]) (N := (fun s w => s70_p32 K (s 1) (s 3) (s 28) (s 134) w)) (N' := (s70_p32_den K)) (X := (fun i => (bif Nat.beq i 0 then (fun s w => s70_p1 K (s 3) w) else (fun _ _ => False)))) (X' := (fun i => (bif Nat.beq i 0 then (s70_p1_den K) else (fun _ _ => False)))) (R := s70_R K) (s := s) (w := w) (p := s70_p33 K (s 1) (s 3) (s 28) w) (q := s70_p33_den K s w) (fun s w h => s70_p32_ok K s w @h) (fun i => (tr_bif (fun s w h => s70_p1_ok K s w @h) tr_id)) (by kernel_rfl) (by kernel_rfl) @h
def s70_p34 (K : Value → World → Prop) (t1 t3 t28 t128 : Value) (w : World) : Prop :=
  ifb t128
  (s70_p17 K t1 t3 w)
  (s70_p33 K t1 t3 t28 w)
def s70_p34_den (K : Value → World → Prop) : (Nat → Value) → World → Prop := fun s w => ifb (ev s (.tmp 128)) ((s70_p17_den K) s w) ((s70_p33_den K) s w)
theorem s70_p34_ok (K : Value → World → Prop) (s : Nat → Value) (w : World) (h : s70_p34 K (s 1) (s 3) (s 28) (s 128) w) : Tr (s70_p34_den K s w) :=
  tr_cond (v := ev s (.tmp 128)) (a := s70_p17 K (s 1) (s 3) w) (a' := s70_p17_den K s w) (b := s70_p33 K (s 1) (s 3) (s 28) w) (b' := s70_p33_den K s w) (p := s70_p34 K (s 1) (s 3) (s 28) (s 128) w) (q := s70_p34_den K s w) (s70_p17_ok K s w) (s70_p33_ok K s w) (by kernel_rfl) (by kernel_rfl) @h
def s70_p35 (K : Value → World → Prop) (t1 t3 t28 : Value) (w : World) : Prop :=
  boI .eql t28 (.int .u8 19) (fun t129 w =>
  s70_p34 K t1 t3 t28 t129 w) w
def s70_p35_den (K : Value → World → Prop) : (Nat → Value) → World → Prop := denL Tryz.prog [(cd (Tryz.f70.body.getD .skip) [1, 1, 1, 1, 0, 1, 0, 1, 1, 1, 1, 1, 1, 1, 1, 1, 1, 1, 1, 0])] (s70_p34_den K) (fun i => (bif Nat.beq i 0 then (s70_p1_den K) else (fun _ _ => False))) (s70_R K)
theorem s70_p35_ok (K : Value → World → Prop) (s : Nat → Value) (w : World) (h : s70_p35 K (s 1) (s 3) (s 28) w) : Tr (s70_p35_den K s w) :=
  tr_simple (P := Tryz.prog) (codes := [(cd (Tryz.f70.body.getD .skip) [1, 1, 1, 1, 0, 1, 0, 1, 1, 1, 1, 1, 1, 1, 1, 1, 1, 1, 1, 0])]) (N := (fun s w => s70_p34 K (s 1) (s 3) (s 28) (s 128) w)) (N' := (s70_p34_den K)) (X := (fun i => (bif Nat.beq i 0 then (fun s w => s70_p1 K (s 3) w) else (fun _ _ => False)))) (X' := (fun i => (bif Nat.beq i 0 then (s70_p1_den K) else (fun _ _ => False)))) (R := s70_R K) (s := s) (w := w) (p := s70_p35 K (s 1) (s 3) (s 28) w) (q := s70_p35_den K s w) (fun s w h => s70_p34_ok K s w @h) (fun i => (tr_bif (fun s w h => s70_p1_ok K s w @h) tr_id)) (by kernel_rfl) (by kernel_rfl) @h
def s70_p36 (K : Value → World → Prop) (t1 t3 t28 t116 : Value) (w : World) : Prop :=
  ifb t116
  (s70_p16 K t1 t3 w)
  (s70_p35 K t1 t3 t28 w)
def s70_p36_den (K : Value → World → Prop) : (Nat → Value) → World → Prop := fun s w => ifb (ev s (.tmp 116)) ((s70_p16_den K) s w) ((s70_p35_den K) s w)
theorem s70_p36_ok (K : Value → World → Prop) (s : Nat → Value) (w : World) (h : s70_p36 K (s 1) (s 3) (s 28) (s 116) w) : Tr (s70_p36_den K s w) :=
  tr_cond (v := ev s (.tmp 116)) (a := s70_p16 K (s 1) (s 3) w) (a' := s70_p16_den K s w) (b := s70_p35 K (s 1) (s 3) (s 28) w) (b' := s70_p35_den K s w) (p := s70_p36 K (s 1) (s 3) (s 28) (s 116) w) (q := s70_p36_den K s w) (s70_p16_ok K s w) (s70_p35_ok K s w) (by kernel_rfl) (by kernel_rfl) @h
def s70_p37 (K : Value → World → Prop) (t1 t3 t28 : Value) (w : World) : Prop :=
  boI .eql t28 (.int .u8 18) (fun t117 w =>
  s70_p36 K t1 t3 t28 t117 w) w
def s70_p37_den (K : Value → World → Prop) : (Nat → Value) → World → Prop := denL Tryz.prog [(cd (Tryz.f70.body.getD .skip) [1, 1, 1, 1, 0, 1, 0, 1, 1, 1, 1, 1, 1, 1, 1, 1, 1, 0])] (s70_p36_den K) (fun i => (bif Nat.beq i 0 then (s70_p1_den K) else (fun _ _ => False))) (s70_R K)
theorem s70_p37_ok (K : Value → World → Prop) (s : Nat → Value) (w : World) (h : s70_p37 K (s 1) (s 3) (s 28) w) : Tr (s70_p37_den K s w) :=
  tr_simple (P := Tryz.prog) (codes := [(cd (Tryz.f70.body.getD .skip) [1, 1, 1, 1, 0, 1, 0, 1, 1, 1, 1, 1, 1, 1, 1, 1, 1, 0])]) (N := (fun s w => s70_p36 K (s 1) (s 3) (s 28) (s 116) w)) (N' := (s70_p36_den K)) (X := (fun i => (bif Nat.beq i 0 then (fun s w => s70_p1 K (s 3) w) else (fun _ _ => False)))) (X' := (fun i => (bif Nat.beq i 0 then (s70_p1_den K) else (fun _ _ => False)))) (R := s70_R K) (s := s) (w := w) (p := s70_p37 K (s 1) (s 3) (s 28) w) (q := s70_p37_den K s w) (fun s w h => s70_p36_ok K s w @h) (fun i => (tr_bif (fun s w h => s70_p1_ok K s w @h) tr_id)) (by kernel_rfl) (by kernel_rfl) @h
def s70_p38 (K : Value → World → Prop) (t1 t3 t28 t95 : Value) (w : World) : Prop :=
  ifb t95
  (s70_p15 K t1 t3 w)
  (s70_p37 K t1 t3 t28 w)
def s70_p38_den (K : Value → World → Prop) : (Nat → Value) → World → Prop := fun s w => ifb (ev s (.tmp 95)) ((s70_p15_den K) s w) ((s70_p37_den K) s w)
theorem s70_p38_ok (K : Value → World → Prop) (s : Nat → Value) (w : World) (h : s70_p38 K (s 1) (s 3) (s 28) (s 95) w) : Tr (s70_p38_den K s w) :=
  tr_cond (v := ev s (.tmp 95)) (a := s70_p15 K (s 1) (s 3) w) (a' := s70_p15_den K s w) (b := s70_p37 K (s 1) (s 3) (s 28) w) (b' := s70_p37_den K s w) (p := s70_p38 K (s 1) (s 3) (s 28) (s 95) w) (q := s70_p38_den K s w) (s70_p15_ok K s w) (s70_p37_ok K s w) (by kernel_rfl) (by kernel_rfl) @h
def s70_p39 (K : Value → World → Prop) (t1 t3 t28 : Value) (w : World) : Prop :=
  boI .eql t28 (.int .u8 16) (fun t96 w =>
  ifb t96
  (s70_p38 K t1 t3 t28 t96 w)
  (boI .eql t28 (.int .u8 17) (fun t97 w =>
  s70_p38 K t1 t3 t28 t97 w) w)) w
def s70_p39_den (K : Value → World → Prop) : (Nat → Value) → World → Prop := denL Tryz.prog [(cd (Tryz.f70.body.getD .skip) [1, 1, 1, 1, 0, 1, 0, 1, 1, 1, 1, 1, 1, 1, 1, 0, 0]), (cd (Tryz.f70.body.getD .skip) [1, 1, 1, 1, 0, 1, 0, 1, 1, 1, 1, 1, 1, 1, 1, 0, 1])] (s70_p38_den K) (fun i => (bif Nat.beq i 0 then (s70_p1_den K) else (fun _ _ => False))) (s70_R K)
theorem s70_p39_ok (K : Value → World → Prop) (s : Nat → Value) (w : World) (h : s70_p39 K (s 1) (s 3) (s 28) w) : Tr (s70_p39_den K s w) :=
  tr_simple (P := Tryz.prog) (codes := [(cd (Tryz.f70.body.getD .skip) [1, 1, 1, 1, 0, 1, 0, 1, 1, 1, 1, 1, 1, 1, 1, 0, 0]), (cd (Tryz.f70.body.getD .skip) [1, 1, 1, 1, 0, 1, 0, 1, 1, 1, 1, 1, 1, 1, 1, 0, 1])]) (N := (fun s w => s70_p38 K (s 1) (s 3) (s 28) (s 95) w)) (N' := (s70_p38_den K)) (X := (fun i => (bif Nat.beq i 0 then (fun s w => s70_p1 K (s 3) w) else (fun _ _ => False)))) (X' := (fun i => (bif Nat.beq i 0 then (s70_p1_den K) else (fun _ _ => False)))) (R := s70_R K) (s := s) (w := w) (p := s70_p39 K (s 1) (s 3) (s 28) w) (q := s70_p39_den K s w) (fun s w h => s70_p38_ok K s w @h) (fun i => (tr_bif (fun s w h => s70_p1_ok K s w @h) tr_id)) (by kernel_rfl) (by kernel_rfl) @h
def s70_p40 (K : Value → World → Prop) (t1 t3 t28 t60 : Value) (w : World) : Prop :=
  ifb t60
  (s70_p11 K t1 t3 w)
  (s70_p39 K t1 t3 t28 w)
def s70_p40_den (K : Value → World → Prop) : (Nat → Value) → World → Prop := fun s w => ifb (ev s (.tmp 60)) ((s70_p11_den K) s w) ((s70_p39_den K) s w)
theorem s70_p40_ok (K : Value → World → Prop) (s : Nat → Value) (w : World) (h : s70_p40 K (s 1) (s 3) (s 28) (s 60) w) : Tr (s70_p40_den K s w) :=
  tr_cond (v := ev s (.tmp 60)) (a := s70_p11 K (s 1) (s 3) w) (a' := s70_p11_den K s w) (b := s70_p39 K (s 1) (s 3) (s 28) w) (b' := s70_p39_den K s w) (p := s70_p40 K (s 1) (s 3) (s 28) (s 60) w) (q := s70_p40_den K s w) (s70_p11_ok K s w) (s70_p39_ok K s w) (by kernel_rfl) (by kernel_rfl) @h
def s70_p41 (K : Value → World → Prop) (t1 t3 t28 : Value) (w : World) : Prop :=
  boI .eql t28 (.int .u8 9) (fun t61 w =>
  s70_p40 K t1 t3 t28 t61 w) w
def s70_p41_den (K : Value → World → Prop) : (Nat → Value) → World → Prop := denL Tryz.prog [(cd (Tryz.f70.body.getD .skip) [1, 1, 1, 1, 0, 1, 0, 1, 1, 1, 1, 1, 1, 0])] (s70_p40_den K) (fun i => (bif Nat.beq i 0 then (s70_p1_den K) else (fun _ _ => False))) (s70_R K)
theorem s70_p41_ok (K : Value → World → Prop) (s : Nat → Value) (w : World) (h : s70_p41 K (s 1) (s 3) (s 28) w) : Tr (s70_p41_den K s w) :=
  tr_simple (P := Tryz.prog) (codes := [(cd (Tryz.f70.body.getD .skip) [1, 1, 1, 1, 0, 1, 0, 1, 1, 1, 1, 1, 1, 0])]) (N := (fun s w => s70_p40 K (s 1) (s 3) (s 28) (s 60) w)) (N' := (s70_p40_den K)) (X := (fun i => (bif Nat.beq i 0 then (fun s w => s70_p1 K (s 3) w) else (fun _ _ => False)))) (X' := (fun i => (bif Nat.beq i 0 then (s70_p1_den K) else (fun _ _ => False)))) (R := s70_R K) (s := s) (w := w) (p := s70_p41 K (s 1) (s 3) (s 28) w) (q := s70_p41_den K s w) (fun s w h => s70_p40_ok K s w @h) (fun i => (tr_bif (fun s w h => s70_p1_ok K s w @h) tr_id)) (by kernel_rfl) (by kernel_rfl) @h
def s70_p42 (K : Value → World → Prop) (t1 t3 t28 t48 : Value) (w : World) : Prop :=
  ifb t48
  (s70_p4 K t1 t3 w)
  (s70_p41 K t1 t3 t28 w)
def s70_p42_den (K : Value → World → Prop) : (Nat → Value) → World → Prop := fun s w => ifb (ev s (.tmp 48)) ((s70_p4_den K) s w) ((s70_p41_den K) s w)
theorem s70_p42_ok (K : Value → World → Prop) (s : Nat → Value) (w : World) (h : s70_p42 K (s 1) (s 3) (s 28) (s 48) w) : Tr (s70_p42_den K s w) :=
  tr_cond (v := ev s (.tmp 48)) (a := s70_p4 K (s 1) (s 3) w) (a' := s70_p4_den K s w) (b := s70_p41 K (s 1) (s 3) (s 28) w) (b' := s70_p41_den K s w) (p := s70_p42 K (s 1) (s 3) (s 28) (s 48) w) (q := s70_p42_den K s w) (s70_p4_ok K s w) (s70_p41_ok K s w) (by kernel_rfl) (by kernel_rfl) @h
def s70_p43 (K : Value → World → Prop) (t1 t3 t28 : Value) (w : World) : Prop :=
  boI .eql t28 (.int .u8 2) (fun t49 w =>
  ifb t49
  (s70_p42 K t1 t3 t28 t49 w)
  (boI .eql t28 (.int .u8 3) (fun t50 w =>
  ifb t50
  (s70_p42 K t1 t3 t28 t50 w)
  (boI .eql t28 (.int .u8 4) (fun t51 w =>
  ifb t51
  (s70_p42 K t1 t3 t28 t51 w)
  (boI .eql t28 (.int .u8 5) (fun t52 w =>
  ifb t52
  (s70_p42 K t1 t3 t28 t52 w)
  (boI .eql t28 (.int .u8 7) (fun t53 w =>
  ifb t53
  (s70_p42 K t1 t3 t28 t53 w)
  (boI .eql t28 (.int .u8 8) (fun t54 w =>
  s70_p42 K t1 t3 t28 t54 w) w)) w)) w)) w)) w)) w
def s70_p43_den (K : Value → World → Prop) : (Nat → Value) → World → Prop := denL Tryz.prog [(cd (Tryz.f70.body.getD .skip) [1, 1, 1, 1, 0, 1, 0, 1, 1, 1, 1, 0, 0]), (cd (Tryz.f70.body.getD .skip) [1, 1, 1, 1, 0, 1, 0, 1, 1, 1, 1, 0, 1])] (s70_p42_den K) (fun i => (bif Nat.beq i 0 then (s70_p1_den K) else (fun _ _ => False))) (s70_R K)
theorem s70_p43_ok (K : Value → World → Prop) (s : Nat → Value) (w : World) (h : s70_p43 K (s 1) (s 3) (s 28) w) : Tr (s70_p43_den K s w) :=
  tr_simple (P := Tryz.prog) (codes := [(cd (Tryz.f70.body.getD .skip) [1, 1, 1, 1, 0, 1, 0, 1, 1, 1, 1, 0, 0]), (cd (Tryz.f70.body.getD .skip) [1, 1, 1, 1, 0, 1, 0, 1, 1, 1, 1, 0, 1])]) (N := (fun s w => s70_p42 K (s 1) (s 3) (s 28) (s 48) w)) (N' := (s70_p42_den K)) (X := (fun i => (bif Nat.beq i 0 then (fun s w => s70_p1 K (s 3) w) else (fun _ _ => False)))) (X' := (fun i => (bif Nat.beq i 0 then (s70_p1_den K) else (fun _ _ => False)))) (R := s70_R K) (s := s) (w := w) (p := s70_p43 K (s 1) (s 3) (s 28) w) (q := s70_p43_den K s w) (fun s w h => s70_p42_ok K s w @h) (fun i => (tr_bif (fun s w h => s70_p1_ok K s w @h) tr_id)) (by kernel_rfl) (by kernel_rfl) @h
def s70_p44 (K : Value → World → Prop) (t1 t3 t28 t39 : Value) (w : World) : Prop :=
  ifb t39
  (s70_p3 K t1 t3 w)
  (s70_p43 K t1 t3 t28 w)
def s70_p44_den (K : Value → World → Prop) : (Nat → Value) → World → Prop := fun s w => ifb (ev s (.tmp 39)) ((s70_p3_den K) s w) ((s70_p43_den K) s w)
theorem s70_p44_ok (K : Value → World → Prop) (s : Nat → Value) (w : World) (h : s70_p44 K (s 1) (s 3) (s 28) (s 39) w) : Tr (s70_p44_den K s w) :=
  tr_cond (v := ev s (.tmp 39)) (a := s70_p3 K (s 1) (s 3) w) (a' := s70_p3_den K s w) (b := s70_p43 K (s 1) (s 3) (s 28) w) (b' := s70_p43_den K s w) (p := s70_p44 K (s 1) (s 3) (s 28) (s 39) w) (q := s70_p44_den K s w) (s70_p3_ok K s w) (s70_p43_ok K s w) (by kernel_rfl) (by kernel_rfl) @h
def s70_p45 (K : Value → World → Prop) (t1 t3 t28 : Value) (w : World) : Prop :=
  boI .eql t28 (.int .u8 6) (fun t40 w =>
  s70_p44 K t1 t3 t28 t40 w) w
def s70_p45_den (K : Value → World → Prop) : (Nat → Value) → World → Prop := denL Tryz.prog [(cd (Tryz.f70.body.getD .skip) [1, 1, 1, 1, 0, 1, 0, 1, 1, 0])] (s70_p44_den K) (fun i => (bif Nat.beq i 0 then (s70_p1_den K) else (fun _ _ => False))) (s70_R K)
theorem s70_p45_ok (K : Value → World → Prop) (s : Nat → Value) (w : World) (h : s70_p45 K (s 1) (s 3) (s 28) w) : Tr (s70_p45_den K s w) :=
  tr_simple (P := Tryz.prog) (codes := [(cd (Tryz.f70.body.getD .skip) [1, 1, 1, 1, 0, 1, 0, 1, 1, 0])]) (N := (fun s w => s70_p44 K (s 1) (s 3) (s 28) (s 39) w)) (N' := (s70_p44_den K)) (X := (fun i => (bif Nat.beq i 0 then (fun s w => s70_p1 K (s 3) w) else (fun _ _ => False)))) (X' := (fun i => (bif Nat.beq i 0 then (s70_p1_den K) else (fun _ _ => False)))) (R := s70_R K) (s := s) (w := w) (p := s70_p45 K (s 1) (s 3) (s 28) w) (q := s70_p45_den K s w) (fun s w h => s70_p44_ok K s w @h) (fun i => (tr_bif (fun s w h => s70_p1_ok K s w @h) tr_id)) (by kernel_rfl) (by kernel_rfl) @h
def s70_p46 (K : Value → World → Prop) (t1 t3 t28 t29 : Value) (w : World) : Prop :=
  ifb t29
  (s70_p2 K t1 t3 w)
  (s70_p45 K t1 t3 t28 w)
def s70_p46_den (K : Value → World → Prop) : (Nat → Value) → World → Prop := fun s w => ifb (ev s (.tmp 29)) ((s70_p2_den K) s w) ((s70_p45_den K) s w)
theorem s70_p46_ok (K : Value → World → Prop) (s : Nat → Value) (w : World) (h : s70_p46 K (s 1) (s 3) (s 28) (s 29) w) : Tr (s70_p46_den K s w) :=
  tr_cond (v := ev s (.tmp 29)) (a := s70_p2 K (s 1) (s 3) w) (a' := s70_p2_den K s w) (b := s70_p45 K (s 1) (s 3) (s 28) w) (b' := s70_p45_den K s w) (p := s70_p46 K (s 1) (s 3) (s 28) (s 29) w) (q := s70_p46_den K s w) (s70_p2_ok K s w) (s70_p45_ok K s w) (by kernel_rfl) (by kernel_rfl) @h
def s70_p47 (K : Value → World → Prop) (t1 t3 t28 : Value) (w : World) : Prop :=
  boI .eql t28 (.int .u8 1) (fun t30 w =>
  ifb t30
  (s70_p46 K t1 t3 t28 t30 w)
  (boI .eql t28 (.int .u8 22) (fun t31 w =>
  s70_p46 K t1 t3 t28 t31 w) w)) w
def s70_p47_den (K : Value → World → Prop) : (Nat → Value) → World → Prop := denL Tryz.prog [(cd (Tryz.f70.body.getD .skip) [1, 1, 1, 1, 0, 1, 0, 0, 0]), (cd (Tryz.f70.body.getD .skip) [1, 1, 1, 1, 0, 1, 0, 0, 1])] (s70_p46_den K) (fun i => (bif Nat.beq i 0 then (s70_p1_den K) else (fun _ _ => False))) (s70_R K)
theorem s70_p47_ok (K : Value → World → Prop) (s : Nat → Value) (w : World) (h : s70_p47 K (s 1) (s 3) (s 28) w) : Tr (s70_p47_den K s w) :=
  tr_simple (P := Tryz.prog) (codes := [(cd (Tryz.f70.body.getD .skip) [1, 1, 1, 1, 0, 1, 0, 0, 0]), (cd (Tryz.f70.body.getD .skip) [1, 1, 1, 1, 0, 1, 0, 0, 1])]) (N := (fun s w => s70_p46 K (s 1) (s 3) (s 28) (s 29) w)) (N' := (s70_p46_den K)) (X := (fun i => (bif Nat.beq i 0 then (fun s w => s70_p1 K (s 3) w) else (fun _ _ => False)))) (X' := (fun i => (bif Nat.beq i 0 then (s70_p1_den K) else (fun _ _ => False)))) (R := s70_R K) (s := s) (w := w) (p := s70_p47 K (s 1) (s 3) (s 28) w) (q := s70_p47_den K s w) (fun s w h => s70_p46_ok K s w @h) (fun i => (tr_bif (fun s w h => s70_p1_ok K s w @h) tr_id)) (by kernel_rfl) (by kernel_rfl) @h
def s70_p48 (K : Value → World → Prop) (t1 t3 : Value) (w : World) : Prop :=
  fd 1 t1 (fun t27 w =>
  ld1 t27 (fun t28 w =>
  s70_p47 K t1 t3 t28 w) w) w
def s70_p48_den (K : Value → World → Prop) : (Nat → Value) → World → Prop := denL Tryz.prog [(cd (Tryz.f70.body.getD .skip) [1, 1, 1, 1, 0, 0])] (s70_p47_den K) (fun i => (fun _ _ => False)) (s70_R K)
theorem s70_p48_ok (K : Value → World → Prop) (s : Nat → Value) (w : World) (h : s70_p48 K (s 1) (s 3) w) : Tr (s70_p48_den K s w) :=
  tr_simple (P := Tryz.prog) (codes := [(cd (Tryz.f70.body.getD .skip) [1, 1, 1, 1, 0, 0])]) (N := (fun s w => s70_p47 K (s 1) (s 3) (s 28) w)) (N' := (s70_p47_den K)) (X := (fun i => (fun _ _ => False))) (X' := (fun i => (fun _ _ => False))) (R := s70_R K) (s := s) (w := w) (p := s70_p48 K (s 1) (s 3) w) (q := s70_p48_den K s w) (fun s w h => s70_p47_ok K s w @h) (fun i => tr_id) (by kernel_rfl) (by kernel_rfl) @h
def s70_p49_d (K : Value → World → Prop) (J : World → Prop) (t1 t3 : Value) (w0 w : World) : Prop :=
  fd 1 t1 (fun t23 _ =>
  Go.Sh.R.qw J (ld1 t23) (fun t24 =>
  cl Tryz.prog 91 #[t3, (.string ⟨#[111, 107]⟩)] (fun t22 w =>
  J w ∧
  cl Tryz.prog 75 #[t24] (fun t25 w =>
  cl Tryz.prog 91 #[t22, t25] (fun t26 w =>
  s70_p48 K t1 t3 w) w) w) w)) w0
def s70_p49 (K : Value → World → Prop) (t1 t3 : Value) (w : World) : Prop := ∃ J : World → Prop, J (drw w) ∧ s70_p49_d K J t1 t3 (drw w) (drw w)
def s70_p49_den (K : Value → World → Prop) : (Nat → Value) → World → Prop := denL Tryz.prog [(cd (Tryz.f70.body.getD .skip) [1, 1, 1, 0])] (s70_p48_den K) (fun i => (fun _ _ => False)) (s70_R K)
theorem s70_p49_ok (K : Value → World → Prop) (s : Nat → Value) (w : World) (h : s70_p49 K (s 1) (s 3) w) : Tr (s70_p49_den K s w) :=
  Go.Sh.R.tr_drawR (P := Tryz.prog) (ops := (ro (cd (Tryz.f70.body.getD .skip) [1, 1, 1, 0]))) (ms := [0, 1, 0, 4, 15, 31]) (cs := [0, 2, 3]) (N := (fun s w => s70_p48 K (s 1) (s 3) w)) (N' := (s70_p48_den K)) (s := s) (w := w) (p := fun J => s70_p49_d K J (s 1) (s 3) (drw w) (drw w)) (q := s70_p49_den K s w) (by kernel_rfl) (by kernel_rfl) (fun s w h => s70_p48_ok K s w @h) (by kernel_rfl) (by kernel_rfl) @h
def s70_p50 (K : Value → World → Prop) (t2 : Value) (w : World) : Prop :=
  K t2 w
def s70_p50_den (K : Value → World → Prop) : (Nat → Value) → World → Prop := denL Tryz.prog [(cd (Tryz.f70.body.getD .skip) [1, 1, 0, 1, 0, 1])] (fun _ _ => False) (fun i => (fun _ _ => False)) (s70_R K)
theorem s70_p50_ok (K : Value → World → Prop) (s : Nat → Value) (w : World) (h : s70_p50 K (s 2) w) : Tr (s70_p50_den K s w) :=
  tr_simple (P := Tryz.prog) (codes := [(cd (Tryz.f70.body.getD .skip) [1, 1, 0, 1, 0, 1])]) (N := (fun _ _ => False)) (N' := (fun _ _ => False)) (X := (fun i => (fun _ _ => False))) (X' := (fun i => (fun _ _ => False))) (R := s70_R K) (s := s) (w := w) (p := s70_p50 K (s 2) w) (q := s70_p50_den K s w) tr_id (fun i => tr_id) (by kernel_rfl) (by kernel_rfl) @h
def s70_p51_d (K : Value → World → Prop) (J : World → Prop) (t1 t3 : Value) (w0 w : World) : Prop :=
  fd 0 t1 (fun t16 _ =>
  Go.Sh.R.qw J (ld1 t16) (fun t17 =>
  cl Tryz.prog 91 #[t3, (.string ⟨#[114, 101, 102, 117, 115, 101, 100, 58]⟩)] (fun t15 w =>
  J w ∧
  cl Tryz.prog 59 #[t17] (fun t18 w =>
  cl Tryz.prog 91 #[t15, t18] (fun t19 w =>
  cl Tryz.prog 93 #[t19] (fun t20 w =>
  s70_p50 K t20 w) w) w) w) w)) w0
def s70_p51 (K : Value → World → Prop) (t1 t3 : Value) (w : World) : Prop := ∃ J : World → Prop, J (drw w) ∧ s70_p51_d K J t1 t3 (drw w) (drw w)
def s70_p51_den (K : Value → World → Prop) : (Nat → Value) → World → Prop := denL Tryz.prog [(cd (Tryz.f70.body.getD .skip) [1, 1, 0, 1, 0, 0])] (s70_p50_den K) (fun i => (fun _ _ => False)) (s70_R K)
theorem s70_p51_ok (K : Value → World → Prop) (s : Nat → Value) (w : World) (h : s70_p51 K (s 1) (s 3) w) : Tr (s70_p51_den K s w) :=
  Go.Sh.R.tr_drawR (P := Tryz.prog) (ops := (ro (cd (Tryz.f70.body.getD .skip) [1, 1, 0, 1, 0, 0]))) (ms := [0, 1, 0, 4, 15, 31, 63, 127]) (cs := [0, 2, 3]) (N := (fun s w => s70_p50 K (s 2) w)) (N' := (s70_p50_den K)) (s := s) (w := w) (p := fun J => s70_p51_d K J (s 1) (s 3) (drw w) (drw w)) (q := s70_p51_den K s w) (by kernel_rfl) (by kernel_rfl) (fun s w h => s70_p50_ok K s w @h) (by kernel_rfl) (by kernel_rfl) @h
def s70_p52 (K : Value → World → Prop) (t1 t3 t13 : Value) (w : World) : Prop :=
  ifb t13
  (s70_p51 K t1 t3 w)
  (s70_p49 K t1 t3 w)
def s70_p52_den (K : Value → World → Prop) : (Nat → Value) → World → Prop := fun s w => ifb (ev s (.tmp 13)) ((s70_p51_den K) s w) ((s70_p49_den K) s w)
theorem s70_p52_ok (K : Value → World → Prop) (s : Nat → Value) (w : World) (h : s70_p52 K (s 1) (s 3) (s 13) w) : Tr (s70_p52_den K s w) :=
  tr_cond (v := ev s (.tmp 13)) (a := s70_p51 K (s 1) (s 3) w) (a' := s70_p51_den K s w) (b := s70_p49 K (s 1) (s 3) w) (b' := s70_p49_den K s w) (p := s70_p52 K (s 1) (s 3) (s 13) w) (q := s70_p52_den K s w) (s70_p51_ok K s w) (s70_p49_ok K s w) (by kernel_rfl) (by kernel_rfl) @h
def s70_p53 (K : Value → World → Prop) (t0 : Value) (w : World) : Prop :=
  nw 46 (t0).cells (fun t1 w =>
  bdq [(.slice none 0 0)] [] (fun t9 w =>
  nw 169 (t9).cells (fun t10 w =>
  fd 0 t1 (fun t11 w =>
  ld1 t11 (fun t12 w =>
  boI .neq t12 (.int .i64 0) (fun t13 w =>
  s70_p52 K t1 t10 t13 w) w) w) w) w) w) w
def s70_p53_den (K : Value → World → Prop) : (Nat → Value) → World → Prop := denL Tryz.prog [(cd (Tryz.f70.body.getD .skip) [0]), (cd (Tryz.f70.body.getD .skip) [1, 0]), (cd (Tryz.f70.body.getD .skip) [1, 1, 0, 0])] (s70_p52_den K) (fun i => (fun _ _ => False)) (s70_R K)
theorem s70_p53_ok (K : Value → World → Prop) (s : Nat → Value) (w : World) (h : s70_p53 K (s 0) w) : Tr (s70_p53_den K s w) :=
  tr_simple (P := Tryz.prog) (codes := [(cd (Tryz.f70.body.getD .skip) [0]), (cd (Tryz.f70.body.getD .skip) [1, 0]), (cd (Tryz.f70.body.getD .skip) [1, 1, 0, 0])]) (N := (fun s w => s70_p52 K (s 1) (s 3) (s 13) w)) (N' := (s70_p52_den K)) (X := (fun i => (fun _ _ => False))) (X' := (fun i => (fun _ _ => False))) (R := s70_R K) (s := s) (w := w) (p := s70_p53 K (s 0) w) (q := s70_p53_den K s w) (fun s w h => s70_p52_ok K s w @h) (fun i => tr_id) (by kernel_rfl) (by kernel_rfl) @h
/-- the call, from the text -/
theorem c70 (t0 : Value) {K : Value → World → Prop} {w : World} (h : s70_p53 K t0 w) : cl Tryz.prog 70 #[t0] K w :=
  calls_of_tr (c := (Tryz.f70.body.getD .skip)) (fn := Tryz.f70) (q := s70_p53_den K (st0 #[t0]) w) Tryz.func70 (by kernel_rfl) (by kernel_rfl) (Nat.le_of_ble_eq_true (by kernel_rfl)) (by kernel_rfl) (by kernel_rfl) (s70_p53_ok K (st0 #[t0]) w @h)

/-! ### function 32 : e2e.engine.DescribeRequest -/
def s32_R (K : Value → World → Prop) (s : Nat → Value) (w : World) : Prop := retv Tryz.prog s Tryz.f32.results.toList (fun vs => K (pack vs) w) w
def s32_p1 (K : Value → World → Prop) (t0 : Value) (w : World) : Prop :=
  cl Tryz.prog 13 #[t0] (fun t7 w =>
  exq t7 0 (fun t8 w =>
  exq t7 1 (fun t9 w =>
  nw 49 #[(.int .u8 0), (.int .i64 0), (.int .i64 0), (.int .i64 0), (.int .i64 0), (.int .i64 0), (.int .i64 0), (.slice none 0 0)] (fun t3 w =>
  stn 8 t3 t8 (fun w =>
  boI .neq t9 (.int .i64 0) (fun t11 w =>
  ifb t11
  (cl Tryz.prog 68 #[t0] (fun t13 w =>
  boS .add (.string ⟨#[109, 97, 108, 102, 111, 114, 109, 101, 100, 32]⟩) t13 (fun t14 w =>
  K t14 w) w) w)
  (ldn 8 t3 (fun t15 w =>
  cl Tryz.prog 69 #[t15] (fun t16 w =>
  K t16 w) w) w)) w) w) w) w) w) w
def s32_p1_den (K : Value → World → Prop) : (Nat → Value) → World → Prop := denL Tryz.prog [(cd (Tryz.f32.body.getD .skip) [0]), (cd (Tryz.f32.body.getD .skip) [1, 0]), (cd (Tryz.f32.body.getD .skip) [1, 1, 0, 0]), (cd (Tryz.f32.body.getD .skip) [1, 1, 0, 1]), (cd (Tryz.f32.body.getD .skip) [1, 1, 1, 0]), (cd (Tryz.f32.body.getD .skip) [1, 1, 1, 1])] (fun _ _ => False) (fun i => (fun _ _ => False)) (s32_R K)
theorem s32_p1_ok (K : Value → World → Prop) (s : Nat → Value) (w : World) (h : s32_p1 K (s 0) w) : Tr (s32_p1_den K s w) :=
  tr_simple (P := Tryz.prog) (codes := [(cd (Tryz.f32.body.getD .skip) [0]), (cd (Tryz.f32.body.getD .skip) [1, 0]), (cd (Tryz.f32.body.getD .skip) [1, 1, 0, 0]), (cd (Tryz.f32.body.getD .skip) [1, 1, 0, 1]), (cd (Tryz.f32.body.getD .skip) [1, 1, 1, 0]), (cd (Tryz.f32.body.getD .skip) [1, 1, 1, 1])]) (N := (fun _ _ => False)) (N' := (fun _ _ => False)) (X := (fun i => (fun _ _ => False))) (X' := (fun i => (fun _ _ => False))) (R := s32_R K) (s := s) (w := w) (p := s32_p1 K (s 0) w) (q := s32_p1_den K s w) tr_id (fun i => tr_id) (by kernel_rfl) (by kernel_rfl) @h
/-- the call, from the text -/
theorem c32 (t0 : Value) {K : Value → World → Prop} {w : World} (h : s32_p1 K t0 w) : cl Tryz.prog 32 #[t0] K w :=
  calls_of_tr (c := (Tryz.f32.body.getD .skip)) (fn := Tryz.f32) (q := s32_p1_den K (st0 #[t0]) w) Tryz.func32 (by kernel_rfl) (by kernel_rfl) (Nat.le_of_ble_eq_true (by kernel_rfl)) (by kernel_rfl) (by kernel_rfl) (s32_p1_ok K (st0 #[t0]) w @h)

/-! ### function 33 : e2e.engine.DescribeReply -/
def s33_R (K : Value → World → Prop) (s : Nat → Value) (w : World) : Prop := retv Tryz.prog s Tryz.f33.results.toList (fun vs => K (pack vs) w) w
def s33_p1 (K : Value → World → Prop) (t0 : Value) (w : World) : Prop :=
  cl Tryz.prog 14 #[t0] (fun t7 w =>
  exq t7 0 (fun t8 w =>
  exq t7 1 (fun t9 w =>
  nw 46 #[(.int .i64 0), (.int .u8 0), (.int .i64 0), (.int .i64 0), (.int .i64 0), (.int .i64 0), (.int .i64 0), (.slice none 0 0), (.int .i64 0), (.int .i64 0), (.int .i64 0), (.slice none 0 0), (.int .i64 0), (.int .i64 0), (.int .i64 0), (.int .i64 0), (.int .i64 0), (.int .i64 0), (.slice none 0 0), (.int .i64 0), (.int .i64 0), (.int .i64 0), (.int .i64 0), (.int .i64 0), (.int .i64 0), (.int .i64 0), (.int .i64 0), (.int .i64 0), (.int .i64 0), (.int .i64 0), (.int .i64 0), (.int .i64 0), (.int .i64 0), (.int .i64 0)] (fun t3 w =>
  stn 34 t3 t8 (fun w =>
  un .not t9 (fun t11 w =>
  ifb t11
  (cl Tryz.prog 68 #[t0] (fun t13 w =>
  boS .add (.string ⟨#[110, 111, 32, 114, 101, 112, 108, 121, 32]⟩) t13 (fun t14 w =>
  K t14 w) w) w)
  (ldn 34 t3 (fun t15 w =>
  cl Tryz.prog 70 #[t15] (fun t16 w =>
  K t16 w) w) w)) w) w) w) w) w) w
def s33_p1_den (K : Value → World → Prop) : (Nat → Value) → World → Prop := denL Tryz.prog [(cd (Tryz.f33.body.getD .skip) [0]), (cd (Tryz.f33.body.getD .skip) [1, 0]), (cd (Tryz.f33.body.getD .skip) [1, 1, 0, 0]), (cd (Tryz.f33.body.getD .skip) [1, 1, 0, 1]), (cd (Tryz.f33.body.getD .skip) [1, 1, 1, 0]), (cd (Tryz.f33.body.getD .skip) [1, 1, 1, 1])] (fun _ _ => False) (fun i => (fun _ _ => False)) (s33_R K)
theorem s33_p1_ok (K : Value → World → Prop) (s : Nat → Value) (w : World) (h : s33_p1 K (s 0) w) : Tr (s33_p1_den K s w) :=
  tr_simple (P := Tryz.prog) (codes := [(cd (Tryz.f33.body.getD .skip) [0]), (cd (Tryz.f33.body.getD .skip) [1, 0]), (cd (Tryz.f33.body.getD .skip) [1, 1, 0, 0]), (cd (Tryz.f33.body.getD .skip) [1, 1, 0, 1]), (cd (Tryz.f33.body.getD .skip) [1, 1, 1, 0]), (cd (Tryz.f33.body.getD .skip) [1, 1, 1, 1])]) (N := (fun _ _ => False)) (N' := (fun _ _ => False)) (X := (fun i => (fun _ _ => False))) (X' := (fun i => (fun _ _ => False))) (R := s33_R K) (s := s) (w := w) (p := s33_p1 K (s 0) w) (q := s33_p1_den K s w) tr_id (fun i => tr_id) (by kernel_rfl) (by kernel_rfl) @h
/-- the call, from the text -/
theorem c33 (t0 : Value) {K : Value → World → Prop} {w : World} (h : s33_p1 K t0 w) : cl Tryz.prog 33 #[t0] K w :=
  calls_of_tr (c := (Tryz.f33.body.getD .skip)) (fn := Tryz.f33) (q := s33_p1_den K (st0 #[t0]) w) Tryz.func33 (by kernel_rfl) (by kernel_rfl) (Nat.le_of_ble_eq_true (by kernel_rfl)) (by kernel_rfl) (by kernel_rfl) (s33_p1_ok K (st0 #[t0]) w @h)

/-! ### function 102 : e2e.engine.StatusName -/
def s102_R (K : Value → World → Prop) (s : Nat → Value) (w : World) : Prop := retv Tryz.prog s Tryz.f102.results.toList (fun vs => K (pack vs) w) w
def s102_p1 (K : Value → World → Prop) (t0 : Value) (w : World) : Prop :=
  boI .lss t0 (.int .i64 0) (fun t4 w =>
  gd t4 false (fun K w => K t0 w) (fun t6 w =>
  gd t4 false (boI .geq t6 (.int .i64 10)) (fun t7 w =>
  pk t4 (.bool true) t7 (fun t8 w =>
  ifb t8
  (cl Tryz.prog 56 #[t0] (fun t10 w =>
  boS .add (.string ⟨#[115, 116, 97, 116, 117, 115, 32]⟩) t10 (fun t11 w =>
  K t11 w) w) w)
  (ixa 10 1 (.pointer (some ⟨2, 0, none⟩)) t0 (fun t13 w =>
  ld1 t13 (fun t14 w =>
  K t14 w) w) w)) w) w) w) w
def s102_p1_den (K : Value → World → Prop) : (Nat → Value) → World → Prop := denL Tryz.prog [(cd (Tryz.f102.body.getD .skip) [0]), (cd (Tryz.f102.body.getD .skip) [1, 0, 0]), (cd (Tryz.f102.body.getD .skip) [1, 0, 1]), (cd (Tryz.f102.body.getD .skip) [1, 1, 0]), (cd (Tryz.f102.body.getD .skip) [1, 1, 1])] (fun _ _ => False) (fun i => (fun _ _ => False)) (s102_R K)
theorem s102_p1_ok (K : Value → World → Prop) (s : Nat → Value) (w : World) (h : s102_p1 K (s 0) w) : Tr (s102_p1_den K s w) :=
  tr_simple (P := Tryz.prog) (codes := [(cd (Tryz.f102.body.getD .skip) [0]), (cd (Tryz.f102.body.getD .skip) [1, 0, 0]), (cd (Tryz.f102.body.getD .skip) [1, 0, 1]), (cd (Tryz.f102.body.getD .skip) [1, 1, 0]), (cd (Tryz.f102.body.getD .skip) [1, 1, 1])]) (N := (fun _ _ => False)) (N' := (fun _ _ => False)) (X := (fun i => (fun _ _ => False))) (X' := (fun i => (fun _ _ => False))) (R := s102_R K) (s := s) (w := w) (p := s102_p1 K (s 0) w) (q := s102_p1_den K s w) tr_id (fun i => tr_id) (by kernel_rfl) (by kernel_rfl) @h
/-- the call, from the text -/
theorem c102 (t0 : Value) {K : Value → World → Prop} {w : World} (h : s102_p1 K t0 w) : cl Tryz.prog 102 #[t0] K w :=
  calls_of_tr (c := (Tryz.f102.body.getD .skip)) (fn := Tryz.f102) (q := s102_p1_den K (st0 #[t0]) w) Tryz.func102 (by kernel_rfl) (by kernel_rfl) (Nat.le_of_ble_eq_true (by kernel_rfl)) (by kernel_rfl) (by kernel_rfl) (s102_p1_ok K (st0 #[t0]) w @h)

/-! ### function 104 : (*e2e.engine.text).ids -/
def s104_R (K : Value → World → Prop) (s : Nat → Value) (w : World) : Prop := retv Tryz.prog s Tryz.f104.results.toList (fun vs => K (pack vs) w) w
def s104_p1 (K : Value → World → Prop) (t0 t1 t7 : Value) (w : World) : Prop :=
  boS .add t1 (.string ⟨#[61]⟩) (fun t28 w =>
  boS .add t28 t7 (fun t30 w =>
  boS .add t30 (.string ⟨#[93]⟩) (fun t31 w =>
  cl Tryz.prog 91 #[t0, t31] (fun t32 w =>
  K t32 w) w) w) w) w
def s104_p1_den (K : Value → World → Prop) : (Nat → Value) → World → Prop := denL Tryz.prog [(cd (Tryz.f104.body.getD .skip) [1, 1, 1, 0]), (cd (Tryz.f104.body.getD .skip) [1, 1, 1, 1])] (fun _ _ => False) (fun i => (fun _ _ => False)) (s104_R K)
theorem s104_p1_ok (K : Value → World → Prop) (s : Nat → Value) (w : World) (h : s104_p1 K (s 0) (s 1) (s 7) w) : Tr (s104_p1_den K s w) :=
  tr_simple (P := Tryz.prog) (codes := [(cd (Tryz.f104.body.getD .skip) [1, 1, 1, 0]), (cd (Tryz.f104.body.getD .skip) [1, 1, 1, 1])]) (N := (fun _ _ => False)) (N' := (fun _ _ => False)) (X := (fun i => (fun _ _ => False))) (X' := (fun i => (fun _ _ => False))) (R := s104_R K) (s := s) (w := w) (p := s104_p1 K (s 0) (s 1) (s 7) w) (q := s104_p1_den K s w) tr_id (fun i => tr_id) (by kernel_rfl) (by kernel_rfl) @h
def s104_p2 (K : Value → World → Prop) (B1 : List Value → World → Prop) (t0 t1 t7 t10 t11 t12 : Value) (w : World) : Prop :=
  boI .add t12 (.int .i64 1) (fun t25 w =>
  B1 [t0, t1, t7, t10, t11, t25] w) w
def s104_p2_den (K : Value → World → Prop) (M1 : (Nat → Value) → World → Prop) : (Nat → Value) → World → Prop := denL Tryz.prog [(cd (Tryz.f104.body.getD .skip) [1, 1, 0, 1, 0, 0, 1, 1, 1])] M1 (fun i => (bif Nat.beq i 0 then (s104_p1_den K) else (fun _ _ => False))) (s104_R K)
theorem s104_p2_ok (K : Value → World → Prop) (B1 : List Value → World → Prop) (s : Nat → Value) (w : World) (h : s104_p2 K B1 (s 0) (s 1) (s 7) (s 10) (s 11) (s 12) w) : Tr (s104_p2_den K (fun s w => B1 [s 0, s 1, s 7, s 10, s 11, s 12] w) s w) :=
  tr_simple (P := Tryz.prog) (codes := [(cd (Tryz.f104.body.getD .skip) [1, 1, 0, 1, 0, 0, 1, 1, 1])]) (N := (fun s w => B1 [s 0, s 1, s 7, s 10, s 11, s 12] w)) (N' := (fun s w => B1 [s 0, s 1, s 7, s 10, s 11, s 12] w)) (X := (fun i => (bif Nat.beq i 0 then (fun s w => s104_p1 K (s 0) (s 1) (s 7) w) else (fun _ _ => False)))) (X' := (fun i => (bif Nat.beq i 0 then (s104_p1_den K) else (fun _ _ => False)))) (R := s104_R K) (s := s) (w := w) (p := s104_p2 K B1 (s 0) (s 1) (s 7) (s 10) (s 11) (s 12) w) (q := s104_p2_den K (fun s w => B1 [s 0, s 1, s 7, s 10, s 11, s 12] w) s w) tr_id (fun i => (tr_bif (fun s w h => s104_p1_ok K s w @h) tr_id)) (by kernel_rfl) (by kernel_rfl) @h
def s104_p3 (K : Value → World → Prop) (B1 : List Value → World → Prop) (t0 t1 t7 t10 t11 t12 : Value) (w : World) : Prop :=
  boI .lss t12 t11 (fun t13 w =>
  ifb t13
  (ixs 1 t10 t12 (fun t15 w =>
  ld1 t15 (fun t16 w =>
  boI .gtr t12 (.int .i64 0) (fun t18 w =>
  ifb t18
  (boS .add t7 (.string ⟨#[32]⟩) (fun t20 w =>
  cl Tryz.prog 56 #[t16] (fun t23 w =>
  boS .add t20 t23 (fun t24 w =>
  s104_p2 K B1 t0 t1 t24 t10 t11 t12 w) w) w) w)
  (cl Tryz.prog 56 #[t16] (fun t23_2 w =>
  boS .add t7 t23_2 (fun t24_2 w =>
  s104_p2 K B1 t0 t1 t24_2 t10 t11 t12 w) w) w)) w) w) w)
  (s104_p1 K t0 t1 t7 w)) w
def s104_p3_den (K : Value → World → Prop) (M1 : (Nat → Value) → World → Prop) : (Nat → Value) → World → Prop := denL Tryz.prog [(cd (Tryz.f104.body.getD .skip) [1, 1, 0, 1, 0, 0, 0]), (cd (Tryz.f104.body.getD .skip) [1, 1, 0, 1, 0, 0, 1, 0]), (cd (Tryz.f104.body.getD .skip) [1, 1, 0, 1, 0, 0, 1, 1, 0])] (s104_p2_den K M1) (fun i => (bif Nat.beq i 0 then (s104_p1_den K) else (fun _ _ => False))) (s104_R K)
theorem s104_p3_ok (K : Value → World → Prop) (B1 : List Value → World → Prop) (s : Nat → Value) (w : World) (h : s104_p3 K B1 (s 0) (s 1) (s 7) (s 10) (s 11) (s 12) w) : Tr (s104_p3_den K (fun s w => B1 [s 0, s 1, s 7, s 10, s 11, s 12] w) s w) :=
  tr_simple (P := Tryz.prog) (codes := [(cd (Tryz.f104.body.getD .skip) [1, 1, 0, 1, 0, 0, 0]), (cd (Tryz.f104.body.getD .skip) [1, 1, 0, 1, 0, 0, 1, 0]), (cd (Tryz.f104.body.getD .skip) [1, 1, 0, 1, 0, 0, 1, 1, 0])]) (N := (fun s w => s104_p2 K B1 (s 0) (s 1) (s 7) (s 10) (s 11) (s 12) w)) (N' := (s104_p2_den K (fun s w => B1 [s 0, s 1, s 7, s 10, s 11, s 12] w))) (X := (fun i => (bif Nat.beq i 0 then (fun s w => s104_p1 K (s 0) (s 1) (s 7) w) else (fun _ _ => False)))) (X' := (fun i => (bif Nat.beq i 0 then (s104_p1_den K) else (fun _ _ => False)))) (R := s104_R K) (s := s) (w := w) (p := s104_p3 K B1 (s 0) (s 1) (s 7) (s 10) (s 11) (s 12) w) (q := s104_p3_den K (fun s w => B1 [s 0, s 1, s 7, s 10, s 11, s 12] w) s w) (fun s w h => s104_p2_ok K B1 s w @h) (fun i => (tr_bif (fun s w h => s104_p1_ok K s w @h) tr_id)) (by kernel_rfl) (by kernel_rfl) @h
def s104_p4_F (K : Value → World → Prop) (B1 : List Value → World → Prop) (l : List Value) (w : World) : Prop :=
  match l with
  | [t0, t1, t7, t10, t11, t12] => s104_p3 K B1 t0 t1 t7 t10 t11 t12 w
  | _ => False
theorem s104_p4_Fe {K : Value → World → Prop} {B1 : List Value → World → Prop} {t0 t1 t7 t10 t11 t12 : Value} {w : World} : s104_p4_F K B1 [t0, t1, t7, t10, t11, t12] w = s104_p3 K B1 t0 t1 t7 t10 t11 t12 w := by kernel_rfl
def s104_p4 (K : Value → World → Prop) (t0 t1 t7 t10 t11 t12 : Value) (w : World) : Prop :=
  LoopL (s104_p4_F K) [t0, t1, t7, t10, t11, t12] w
def s104_p4_den (K : Value → World → Prop) : (Nat → Value) → World → Prop := fun s w => LoopP (fun M1 s w => s104_p3_den K M1 s w) s w
theorem s104_p4_ok (K : Value → World → Prop) (s : Nat → Value) (w : World) (h : s104_p4 K (s 0) (s 1) (s 7) (s 10) (s 11) (s 12) w) : Tr (s104_p4_den K s w) :=
  tr_loop (G := fun N' s w => s104_p3_den K N' s w) (F := s104_p4_F K) (sel := fun s => [s 0, s 1, s 7, s 10, s 11, s 12]) (s := s) (w := w) (p := s104_p4 K (s 0) (s 1) (s 7) (s 10) (s 11) (s 12) w) (q := s104_p4_den K s w) (fun B s w h => s104_p3_ok K B s w @h) (by kernel_rfl) (by kernel_rfl) @h
def s104_p5 (K : Value → World → Prop) (t0 t1 t2 : Value) (w : World) : Prop :=
  lnS t2 (fun t11 w =>
  s104_p4 K t0 t1 (.string ⟨#[91]⟩) t2 t11 (.int .i64 0) w) w
def s104_p5_den (K : Value → World → Prop) : (Nat → Value) → World → Prop := denL Tryz.prog [(cd (Tryz.f104.body.getD .skip) [0]), (cd (Tryz.f104.body.getD .skip) [1, 0]), (cd (Tryz.f104.body.getD .skip) [1, 1, 0, 0])] (s104_p4_den K) (fun i => (fun _ _ => False)) (s104_R K)
theorem s104_p5_ok (K : Value → World → Prop) (s : Nat → Value) (w : World) (h : s104_p5 K (s 0) (s 1) (s 2) w) : Tr (s104_p5_den K s w) :=
  tr_simple (P := Tryz.prog) (codes := [(cd (Tryz.f104.body.getD .skip) [0]), (cd (Tryz.f104.body.getD .skip) [1, 0]), (cd (Tryz.f104.body.getD .skip) [1, 1, 0, 0])]) (N := (fun s w => s104_p4 K (s 0) (s 1) (s 7) (s 10) (s 11) (s 12) w)) (N' := (s104_p4_den K)) (X := (fun i => (fun _ _ => False))) (X' := (fun i => (fun _ _ => False))) (R := s104_R K) (s := s) (w := w) (p := s104_p5 K (s 0) (s 1) (s 2) w) (q := s104_p5_den K s w) (fun s w h => s104_p4_ok K s w @h) (fun i => tr_id) (by kernel_rfl) (by kernel_rfl) @h
/-- the call, from the text -/
theorem c104 (t0 t1 t2 : Value) {K : Value → World → Prop} {w : World} (h : s104_p5 K t0 t1 t2 w) : cl Tryz.prog 104 #[t0, t1, t2] K w :=
  calls_of_tr (c := (Tryz.f104.body.getD .skip)) (fn := Tryz.f104) (q := s104_p5_den K (st0 #[t0, t1, t2]) w) Tryz.func104 (by kernel_rfl) (by kernel_rfl) (Nat.le_of_ble_eq_true (by kernel_rfl)) (by kernel_rfl) (by kernel_rfl) (s104_p5_ok K (st0 #[t0, t1, t2]) w @h)

/-! ### function 103 : (*e2e.engine.text).record -/
def s103_R (K : Value → World → Prop) (s : Nat → Value) (w : World) : Prop := retv Tryz.prog s Tryz.f103.results.toList (fun vs => K (pack vs) w) w
def s103_p1 (K : Value → World → Prop) (t0 t3 : Value) (w : World) : Prop :=
  fd 6 t3 (fun t33 w =>
  ld1 t33 (fun t34 w =>
  cl Tryz.prog 101 #[t0, t34] (fun t35 w =>
  cl Tryz.prog 91 #[t35, (.string ⟨#[125]⟩)] (fun t36 w =>
  K t36 w) w) w) w) w
def s103_p1_den (K : Value → World → Prop) : (Nat → Value) → World → Prop := denL Tryz.prog [(cd (Tryz.f103.body.getD .skip) [1, 1, 1, 0]), (cd (Tryz.f103.body.getD .skip) [1, 1, 1, 1])] (fun _ _ => False) (fun i => (fun _ _ => False)) (s103_R K)
theorem s103_p1_ok (K : Value → World → Prop) (s : Nat → Value) (w : World) (h : s103_p1 K (s 0) (s 3) w) : Tr (s103_p1_den K s w) :=
  tr_simple (P := Tryz.prog) (codes := [(cd (Tryz.f103.body.getD .skip) [1, 1, 1, 0]), (cd (Tryz.f103.body.getD .skip) [1, 1, 1, 1])]) (N := (fun _ _ => False)) (N' := (fun _ _ => False)) (X := (fun i => (fun _ _ => False))) (X' := (fun i => (fun _ _ => False))) (R := s103_R K) (s := s) (w := w) (p := s103_p1 K (s 0) (s 3) w) (q := s103_p1_den K s w) tr_id (fun i => tr_id) (by kernel_rfl) (by kernel_rfl) @h
def s103_p2 (K : Value → World → Prop) (t0 t3 : Value) (w : World) : Prop :=
  fd 4 t3 (fun t20 w =>
  ld1 t20 (fun t21 w =>
  boI .gtr t21 (.int .i64 0) (fun t22 w =>
  ifb t22
  (fd 4 t3 (fun t24 w =>
  ld1 t24 (fun t25 w =>
  boI .sub t25 (.int .i64 1) (fun t26 w =>
  cl Tryz.prog 92 #[t0, (.string ⟨#[108, 105, 110, 101]⟩), t26] (fun t27 w =>
  s103_p1 K t0 t3 w) w) w) w) w)
  (fd 5 t3 (fun t29 w =>
  ld1 t29 (fun t30 w =>
  cl Tryz.prog 92 #[t0, (.string ⟨#[101, 120, 112, 105, 114, 121]⟩), t30] (fun t31 w =>
  s103_p1 K t0 t3 w) w) w) w)) w) w) w
def s103_p2_den (K : Value → World → Prop) : (Nat → Value) → World → Prop := denL Tryz.prog [(cd (Tryz.f103.body.getD .skip) [1, 1, 0, 0]), (cd (Tryz.f103.body.getD .skip) [1, 1, 0, 1])] (s103_p1_den K) (fun i => (fun _ _ => False)) (s103_R K)
theorem s103_p2_ok (K : Value → World → Prop) (s : Nat → Value) (w : World) (h : s103_p2 K (s 0) (s 3) w) : Tr (s103_p2_den K s w) :=
  tr_simple (P := Tryz.prog) (codes := [(cd (Tryz.f103.body.getD .skip) [1, 1, 0, 0]), (cd (Tryz.f103.body.getD .skip) [1, 1, 0, 1])]) (N := (fun s w => s103_p1 K (s 0) (s 3) w)) (N' := (s103_p1_den K)) (X := (fun i => (fun _ _ => False))) (X' := (fun i => (fun _ _ => False))) (R := s103_R K) (s := s) (w := w) (p := s103_p2 K (s 0) (s 3) w) (q := s103_p2_den K s w) (fun s w h => s103_p1_ok K s w @h) (fun i => tr_id) (by kernel_rfl) (by kernel_rfl) @h
def s103_p3_d (K : Value → World → Prop) (J : World → Prop) (t0 t3 : Value) (w0 w : World) : Prop :=
  fd 0 t3 (fun t7 _ =>
  Go.Sh.R.qw J (ld1 t7) (fun t8 =>
  fd 1 t3 (fun t10 _ =>
  Go.Sh.R.qw J (ld1 t10) (fun t11 =>
  fd 2 t3 (fun t14 _ =>
  Go.Sh.R.qw J (ld1 t14) (fun t15 =>
  fd 3 t3 (fun t17 _ =>
  Go.Sh.R.qw J (ld1 t17) (fun t18 =>
  cl Tryz.prog 91 #[t0, (.string ⟨#[123]⟩)] (fun t6 w =>
  J w ∧
  cl Tryz.prog 92 #[t6, (.string ⟨#[105, 100]⟩), t8] (fun t9 w =>
  J w ∧
  cl Tryz.prog 102 #[t11] (fun t12 w =>
  J w ∧
  cl Tryz.prog 91 #[t9, t12] (fun t13 w =>
  J w ∧
  cl Tryz.prog 92 #[t13, (.string ⟨#[99, 108, 97, 115, 115]⟩), t15] (fun t16 w =>
  J w ∧
  cl Tryz.prog 92 #[t16, (.string ⟨#[115, 105, 122, 101]⟩), t18] (fun t19 w =>
  s103_p2 K t0 t3 w) w) w) w) w) w) w)) w0)) w0)) w0)) w0
def s103_p3 (K : Value → World → Prop) (t0 t3 : Value) (w : World) : Prop := ∃ J : World → Prop, J (drw w) ∧ s103_p3_d K J t0 t3 (drw w) (drw w)
def s103_p3_den (K : Value → World → Prop) : (Nat → Value) → World → Prop := denL Tryz.prog [(cd (Tryz.f103.body.getD .skip) [1, 0])] (s103_p2_den K) (fun i => (fun _ _ => False)) (s103_R K)
theorem s103_p3_ok (K : Value → World → Prop) (s : Nat → Value) (w : World) (h : s103_p3 K (s 0) (s 3) w) : Tr (s103_p3_den K s w) :=
  Go.Sh.R.tr_drawR (P := Tryz.prog) (ops := (ro (cd (Tryz.f103.body.getD .skip) [1, 0]))) (ms := [0, 1, 0, 4, 15, 0, 32, 127, 255, 0, 512, 2047, 0, 4096, 16383]) (cs := [0, 2, 3, 5, 6, 9, 10, 12, 13]) (N := (fun s w => s103_p2 K (s 0) (s 3) w)) (N' := (s103_p2_den K)) (s := s) (w := w) (p := fun J => s103_p3_d K J (s 0) (s 3) (drw w) (drw w)) (q := s103_p3_den K s w) (by kernel_rfl) (by kernel_rfl) (fun s w h => s103_p2_ok K s w @h) (by kernel_rfl) (by kernel_rfl) @h
def s103_p4 (K : Value → World → Prop) (t0 t1 : Value) (w : World) : Prop :=
  nw 66 (t1).cells (fun t3 w =>
  s103_p3 K t0 t3 w) w
def s103_p4_den (K : Value → World → Prop) : (Nat → Value) → World → Prop := denL Tryz.prog [(cd (Tryz.f103.body.getD .skip) [0])] (s103_p3_den K) (fun i => (fun _ _ => False)) (s103_R K)
theorem s103_p4_ok (K : Value → World → Prop) (s : Nat → Value) (w : World) (h : s103_p4 K (s 0) (s 1) w) : Tr (s103_p4_den K s w) :=
  tr_simple (P := Tryz.prog) (codes := [(cd (Tryz.f103.body.getD .skip) [0])]) (N := (fun s w => s103_p3 K (s 0) (s 3) w)) (N' := (s103_p3_den K)) (X := (fun i => (fun _ _ => False))) (X' := (fun i => (fun _ _ => False))) (R := s103_R K) (s := s) (w := w) (p := s103_p4 K (s 0) (s 1) w) (q := s103_p4_den K s w) (fun s w h => s103_p3_ok K s w @h) (fun i => tr_id) (by kernel_rfl) (by kernel_rfl) @h
/-- the call, from the text -/
theorem c103 (t0 t1 : Value) {K : Value → World → Prop} {w : World} (h : s103_p4 K t0 t1 w) : cl Tryz.prog 103 #[t0, t1] K w :=
  calls_of_tr (c := (Tryz.f103.body.getD .skip)) (fn := Tryz.f103) (q := s103_p4_den K (st0 #[t0, t1]) w) Tryz.func103 (by kernel_rfl) (by kernel_rfl) (Nat.le_of_ble_eq_true (by kernel_rfl)) (by kernel_rfl) (by kernel_rfl) (s103_p4_ok K (st0 #[t0, t1]) w @h)

end Go.Proofs.Qxb6500896aGreatDoor
