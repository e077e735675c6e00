import Derived.Test.Qxb6500896aGreatProg
import Derived.Test.Qxb6500896aGreatShMix3
namespace Go.Proofs.Qxb6500896aGreat
open Go.Sh Go.RowKit
set_option linter.unusedVariables false
set_option maxRecDepth 100000

/-! ### function 7 : e2e.enginelaw.BatchEqualsOneByOne -/
def s7_R (K : Value → World → Prop) (s : Nat → Value) (w : World) : Prop := retv Tryz.prog s Tryz.f7.results.toList (fun vs => K (pack vs) w) w
def s7_p1 (K : Value → World → Prop) (w : World) : Prop :=
  K (.bool true) w
def s7_p1_den (K : Value → World → Prop) : (Nat → Value) → World → Prop := denL Tryz.prog [(cd (Tryz.f7.body.getD .skip) [1, 1, 1, 1, 1, 0]), (cd (Tryz.f7.body.getD .skip) [1, 1, 1, 1, 1, 1])] (fun _ _ => False) (fun i => (fun _ _ => False)) (s7_R K)
theorem s7_p1_ok (K : Value → World → Prop) (s : Nat → Value) (w : World) (h : s7_p1 K w) : Tr (s7_p1_den K s w) :=
  tr_simple (P := Tryz.prog) (codes := [(cd (Tryz.f7.body.getD .skip) [1, 1, 1, 1, 1, 0]), (cd (Tryz.f7.body.getD .skip) [1, 1, 1, 1, 1, 1])]) (N := (fun _ _ => False)) (N' := (fun _ _ => False)) (X := (fun i => (fun _ _ => False))) (X' := (fun i => (fun _ _ => False))) (R := s7_R K) (s := s) (w := w) (p := s7_p1 K w) (q := s7_p1_den K s w) tr_id (fun i => tr_id) (by kernel_rfl) (by kernel_rfl) @h
def s7_p2 (K : Value → World → Prop) (B1 : List Value → World → Prop) (t3 t4 t5 t20 t21 t22 : Value) (w : World) : Prop :=
  boI .add t22 (.int .i64 1) (fun t84 w =>
  B1 [t3, t4, t5, t20, t21, t84] w) w
def s7_p2_den (K : Value → World → Prop) (M1 : (Nat → Value) → World → Prop) : (Nat → Value) → World → Prop := denL Tryz.prog [(cd (Tryz.f7.body.getD .skip) [1, 1, 1, 1, 0, 1, 0, 0, 1, 1, 1])] M1 (fun i => (bif Nat.beq i 0 then (s7_p1_den K) else (fun _ _ => False))) (s7_R K)
theorem s7_p2_ok (K : Value → World → Prop) (B1 : List Value → World → Prop) (s : Nat → Value) (w : World) (h : s7_p2 K B1 (s 3) (s 4) (s 5) (s 20) (s 21) (s 22) w) : Tr (s7_p2_den K (fun s w => B1 [s 3, s 4, s 5, s 20, s 21, s 22] w) s w) :=
  tr_simple (P := Tryz.prog) (codes := [(cd (Tryz.f7.body.getD .skip) [1, 1, 1, 1, 0, 1, 0, 0, 1, 1, 1])]) (N := (fun s w => B1 [s 3, s 4, s 5, s 20, s 21, s 22] w)) (N' := (fun s w => B1 [s 3, s 4, s 5, s 20, s 21, s 22] w)) (X := (fun i => (bif Nat.beq i 0 then (fun s w => s7_p1 K w) else (fun _ _ => False)))) (X' := (fun i => (bif Nat.beq i 0 then (s7_p1_den K) else (fun _ _ => False)))) (R := s7_R K) (s := s) (w := w) (p := s7_p2 K B1 (s 3) (s 4) (s 5) (s 20) (s 21) (s 22) w) (q := s7_p2_den K (fun s w => B1 [s 3, s 4, s 5, s 20, s 21, s 22] w) s w) tr_id (fun i => (tr_bif (fun s w h => s7_p1_ok K s w @h) tr_id)) (by kernel_rfl) (by kernel_rfl) @h
def s7_p3 (K : Value → World → Prop) (B1 : List Value → World → Prop) (t3 t4 t5 t11 t12 t20 t21 t22 : Value) (w : World) : Prop :=
  boF Tryz.prog true .neq t12 .nilIface (fun t73 w =>
  gd t73 false (fun K w => K t11 w) (fun t75 w =>
  gd t73 false (fun K w => K (.func (.func 40) #[t75] #[]) w) (fun t76 w =>
  gd t73 false (cl Tryz.prog 26 #[t76]) (fun t77 w =>
  gd t73 false (fun K w => K t4 w) (fun t78 w =>
  gd t73 false (fun K w => K (.func (.func 25) #[t78] #[]) w) (fun t79 w =>
  gd t73 false (cl Tryz.prog 26 #[t79]) (fun t80 w =>
  gd t73 false (cl Tryz.prog 23 #[t77, t80]) (fun t81 w =>
  gd t73 false (un .not t81) (fun t82 w =>
  pk t73 (.bool true) t82 (fun t83 w =>
  ifb t83
  (K (.bool false) w)
  (s7_p2 K B1 t3 t4 t5 t20 t21 t22 w)) w) w) w) w) w) w) w) w) w) w
def s7_p3_den (K : Value → World → Prop) (M1 : (Nat → Value) → World → Prop) : (Nat → Value) → World → Prop := denL Tryz.prog [(cd (Tryz.f7.body.getD .skip) [1, 1, 1, 1, 0, 1, 0, 0, 1, 1, 0, 0, 1, 1, 1, 1, 1, 1, 1, 1, 1, 0]), (cd (Tryz.f7.body.getD .skip) [1, 1, 1, 1, 0, 1, 0, 0, 1, 1, 0, 0, 1, 1, 1, 1, 1, 1, 1, 1, 1, 1])] (s7_p2_den K M1) (fun i => (bif Nat.beq i 1 then (s7_p2_den K M1) else (bif Nat.beq i 0 then (s7_p1_den K) else (fun _ _ => False)))) (s7_R K)
theorem s7_p3_ok (K : Value → World → Prop) (B1 : List Value → World → Prop) (s : Nat → Value) (w : World) (h : s7_p3 K B1 (s 3) (s 4) (s 5) (s 11) (s 12) (s 20) (s 21) (s 22) w) : Tr (s7_p3_den K (fun s w => B1 [s 3, s 4, s 5, s 20, s 21, s 22] w) s w) :=
  tr_simple (P := Tryz.prog) (codes := [(cd (Tryz.f7.body.getD .skip) [1, 1, 1, 1, 0, 1, 0, 0, 1, 1, 0, 0, 1, 1, 1, 1, 1, 1, 1, 1, 1, 0]), (cd (Tryz.f7.body.getD .skip) [1, 1, 1, 1, 0, 1, 0, 0, 1, 1, 0, 0, 1, 1, 1, 1, 1, 1, 1, 1, 1, 1])]) (N := (fun s w => s7_p2 K B1 (s 3) (s 4) (s 5) (s 20) (s 21) (s 22) w)) (N' := (s7_p2_den K (fun s w => B1 [s 3, s 4, s 5, s 20, s 21, s 22] w))) (X := (fun i => (bif Nat.beq i 1 then (fun s w => s7_p2 K B1 (s 3) (s 4) (s 5) (s 20) (s 21) (s 22) w) else (bif Nat.beq i 0 then (fun s w => s7_p1 K w) else (fun _ _ => False))))) (X' := (fun i => (bif Nat.beq i 1 then (s7_p2_den K (fun s w => B1 [s 3, s 4, s 5, s 20, s 21, s 22] w)) else (bif Nat.beq i 0 then (s7_p1_den K) else (fun _ _ => False))))) (R := s7_R K) (s := s) (w := w) (p := s7_p3 K B1 (s 3) (s 4) (s 5) (s 11) (s 12) (s 20) (s 21) (s 22) w) (q := s7_p3_den K (fun s w => B1 [s 3, s 4, s 5, s 20, s 21, s 22] w) s w) (fun s w h => s7_p2_ok K B1 s w @h) (fun i => (tr_bif (fun s w h => s7_p2_ok K B1 s w @h) (tr_bif (fun s w h => s7_p1_ok K s w @h) tr_id))) (by kernel_rfl) (by kernel_rfl) @h
def s7_p4_d (K : Value → World → Prop) (B1 : List Value → World → Prop) (J : World → Prop) (t3 t4 t5 t20 t21 t22 : Value) (w0 w : World) : Prop :=
  nck t3 (fun t65 _ =>
  fd 0 t65 (fun t66 _ =>
  Go.Sh.R.qw J (ld1 t66) (fun t67 =>
  cl Tryz.prog 21 #[] (fun t63 w =>
  J w ∧
  cl Tryz.prog 39 #[t67] (fun t68 w =>
  cl Tryz.prog 38 #[t63, t68] (fun t69 w =>
  (exq t69 0 (fun t70 w =>
  (exq t69 1 (fun t71 w =>
  s7_p3 K B1 t3 t4 t5 t70 t71 t20 t21 t22 w) w) ∧
  (exq t69 1 (fun t71_2 w =>
  s7_p3 K B1 t3 t4 t5 t70 t71_2 t20 t21 t22 w) w)) w) ∧
  (exq t69 1 (fun t71_3 w =>
  exq t69 0 (fun t70_2 w =>
  s7_p3 K B1 t3 t4 t5 t70_2 t71_3 t20 t21 t22 w) w) w)) w) w) w)) w0) w0
def s7_p4 (K : Value → World → Prop) (B1 : List Value → World → Prop) (t3 t4 t5 t20 t21 t22 : Value) (w : World) : Prop := ∃ J : World → Prop, J (drw w) ∧ s7_p4_d K B1 J t3 t4 t5 t20 t21 t22 (drw w) (drw w)
def s7_p4_den (K : Value → World → Prop) (M1 : (Nat → Value) → World → Prop) : (Nat → Value) → World → Prop := denL Tryz.prog [(cd (Tryz.f7.body.getD .skip) [1, 1, 1, 1, 0, 1, 0, 0, 1, 1, 0, 0, 1, 1, 1, 1, 1, 1, 1, 1, 0])] (s7_p3_den K M1) (fun i => (bif Nat.beq i 1 then (s7_p2_den K M1) else (bif Nat.beq i 0 then (s7_p1_den K) else (fun _ _ => False)))) (s7_R K)
theorem s7_p4_ok (K : Value → World → Prop) (B1 : List Value → World → Prop) (s : Nat → Value) (w : World) (h : s7_p4 K B1 (s 3) (s 4) (s 5) (s 20) (s 21) (s 22) w) : Tr (s7_p4_den K (fun s w => B1 [s 3, s 4, s 5, s 20, s 21, s 22] w) s w) :=
  Go.Sh.R.tr_drawR (P := Tryz.prog) (ops := (ro (cd (Tryz.f7.body.getD .skip) [1, 1, 1, 1, 0, 1, 0, 0, 1, 1, 0, 0, 1, 1, 1, 1, 1, 1, 1, 1, 0]))) (ms := [0, 0, 2, 6, 14, 31, 63, 127, 255, 255, 511, 2047]) (cs := [1, 2, 3, 4]) (N := (fun s w => s7_p3 K B1 (s 3) (s 4) (s 5) (s 11) (s 12) (s 20) (s 21) (s 22) w)) (N' := (s7_p3_den K (fun s w => B1 [s 3, s 4, s 5, s 20, s 21, s 22] w))) (s := s) (w := w) (p := fun J => s7_p4_d K B1 J (s 3) (s 4) (s 5) (s 20) (s 21) (s 22) (drw w) (drw w)) (q := s7_p4_den K (fun s w => B1 [s 3, s 4, s 5, s 20, s 21, s 22] w) s w) (by kernel_rfl) (by kernel_rfl) (fun s w h => s7_p3_ok K B1 s w @h) (by kernel_rfl) (by kernel_rfl) @h
def s7_p5 (K : Value → World → Prop) (B1 : List Value → World → Prop) (t3 t4 t20 t21 t22 : Value) (w : World) : Prop :=
  s7_p4 K B1 t3 t4 (.slice none 0 0) t20 t21 t22 w
def s7_p5_den (K : Value → World → Prop) (M1 : (Nat → Value) → World → Prop) : (Nat → Value) → World → Prop := denL Tryz.prog [(cd (Tryz.f7.body.getD .skip) [1, 1, 1, 1, 0, 1, 0, 0, 1, 1, 0, 0, 1, 1, 1, 1, 1, 1, 1, 0])] (s7_p4_den K M1) (fun i => (bif Nat.beq i 1 then (s7_p2_den K M1) else (bif Nat.beq i 0 then (s7_p1_den K) else (fun _ _ => False)))) (s7_R K)
theorem s7_p5_ok (K : Value → World → Prop) (B1 : List Value → World → Prop) (s : Nat → Value) (w : World) (h : s7_p5 K B1 (s 3) (s 4) (s 20) (s 21) (s 22) w) : Tr (s7_p5_den K (fun s w => B1 [s 3, s 4, s 5, s 20, s 21, s 22] w) s w) :=
  tr_simple (P := Tryz.prog) (codes := [(cd (Tryz.f7.body.getD .skip) [1, 1, 1, 1, 0, 1, 0, 0, 1, 1, 0, 0, 1, 1, 1, 1, 1, 1, 1, 0])]) (N := (fun s w => s7_p4 K B1 (s 3) (s 4) (s 5) (s 20) (s 21) (s 22) w)) (N' := (s7_p4_den K (fun s w => B1 [s 3, s 4, s 5, s 20, s 21, s 22] w))) (X := (fun i => (bif Nat.beq i 1 then (fun s w => s7_p2 K B1 (s 3) (s 4) (s 5) (s 20) (s 21) (s 22) w) else (bif Nat.beq i 0 then (fun s w => s7_p1 K w) else (fun _ _ => False))))) (X' := (fun i => (bif Nat.beq i 1 then (s7_p2_den K (fun s w => B1 [s 3, s 4, s 5, s 20, s 21, s 22] w)) else (bif Nat.beq i 0 then (s7_p1_den K) else (fun _ _ => False))))) (R := s7_R K) (s := s) (w := w) (p := s7_p5 K B1 (s 3) (s 4) (s 20) (s 21) (s 22) w) (q := s7_p5_den K (fun s w => B1 [s 3, s 4, s 5, s 20, s 21, s 22] w) s w) (fun s w h => s7_p4_ok K B1 s w @h) (fun i => (tr_bif (fun s w h => s7_p2_ok K B1 s w @h) (tr_bif (fun s w h => s7_p1_ok K s w @h) tr_id))) (by kernel_rfl) (by kernel_rfl) @h
def s7_p6 (K : Value → World → Prop) (B1 : List Value → World → Prop) (B2 : List Value → World → Prop) (t3 t4 t5 t20 t21 t22 t45 t46 t47 : Value) (w : World) : Prop :=
  boI .lss t47 t46 (fun t48 w =>
  ifb t48
  (ixs 1 t45 t47 (fun t50 w =>
  ld1 t50 (fun t51 w =>
  ixs 1 t5 t47 (fun t56 w =>
  ld1 t56 (fun t57 w =>
  cl Tryz.prog 25 #[t4, t57] (fun t58 w =>
  cl Tryz.prog 23 #[t51, t58] (fun t59 w =>
  un .not t59 (fun t60 w =>
  ifb t60
  (K (.bool false) w)
  (boI .add t47 (.int .i64 1) (fun t61 w =>
  B2 [t3, t4, t5, t20, t21, t22, t45, t46, t61] w) w)) w) w) w) w) w) w) w)
  (s7_p5 K B1 t3 t4 t20 t21 t22 w)) w
def s7_p6_den (K : Value → World → Prop) (M1 : (Nat → Value) → World → Prop) (M2 : (Nat → Value) → World → Prop) : (Nat → Value) → World → Prop := denL Tryz.prog [(cd (Tryz.f7.body.getD .skip) [1, 1, 1, 1, 0, 1, 0, 0, 1, 1, 0, 0, 1, 1, 1, 1, 1, 1, 0, 1, 0, 0, 0]), (cd (Tryz.f7.body.getD .skip) [1, 1, 1, 1, 0, 1, 0, 0, 1, 1, 0, 0, 1, 1, 1, 1, 1, 1, 0, 1, 0, 0, 1, 0]), (cd (Tryz.f7.body.getD .skip) [1, 1, 1, 1, 0, 1, 0, 0, 1, 1, 0, 0, 1, 1, 1, 1, 1, 1, 0, 1, 0, 0, 1, 1, 0]), (cd (Tryz.f7.body.getD .skip) [1, 1, 1, 1, 0, 1, 0, 0, 1, 1, 0, 0, 1, 1, 1, 1, 1, 1, 0, 1, 0, 0, 1, 1, 1])] M2 (fun i => (bif Nat.beq i 2 then (s7_p5_den K M1) else (bif Nat.beq i 1 then (s7_p2_den K M1) else (bif Nat.beq i 0 then (s7_p1_den K) else (fun _ _ => False))))) (s7_R K)
theorem s7_p6_ok (K : Value → World → Prop) (B1 : List Value → World → Prop) (B2 : List Value → World → Prop) (s : Nat → Value) (w : World) (h : s7_p6 K B1 B2 (s 3) (s 4) (s 5) (s 20) (s 21) (s 22) (s 45) (s 46) (s 47) w) : Tr (s7_p6_den K (fun s w => B1 [s 3, s 4, s 5, s 20, s 21, s 22] w) (fun s w => B2 [s 3, s 4, s 5, s 20, s 21, s 22, s 45, s 46, s 47] w) s w) :=
  tr_simple (P := Tryz.prog) (codes := [(cd (Tryz.f7.body.getD .skip) [1, 1, 1, 1, 0, 1, 0, 0, 1, 1, 0, 0, 1, 1, 1, 1, 1, 1, 0, 1, 0, 0, 0]), (cd (Tryz.f7.body.getD .skip) [1, 1, 1, 1, 0, 1, 0, 0, 1, 1, 0, 0, 1, 1, 1, 1, 1, 1, 0, 1, 0, 0, 1, 0]), (cd (Tryz.f7.body.getD .skip) [1, 1, 1, 1, 0, 1, 0, 0, 1, 1, 0, 0, 1, 1, 1, 1, 1, 1, 0, 1, 0, 0, 1, 1, 0]), (cd (Tryz.f7.body.getD .skip) [1, 1, 1, 1, 0, 1, 0, 0, 1, 1, 0, 0, 1, 1, 1, 1, 1, 1, 0, 1, 0, 0, 1, 1, 1])]) (N := (fun s w => B2 [s 3, s 4, s 5, s 20, s 21, s 22, s 45, s 46, s 47] w)) (N' := (fun s w => B2 [s 3, s 4, s 5, s 20, s 21, s 22, s 45, s 46, s 47] w)) (X := (fun i => (bif Nat.beq i 2 then (fun s w => s7_p5 K B1 (s 3) (s 4) (s 20) (s 21) (s 22) w) else (bif Nat.beq i 1 then (fun s w => s7_p2 K B1 (s 3) (s 4) (s 5) (s 20) (s 21) (s 22) w) else (bif Nat.beq i 0 then (fun s w => s7_p1 K w) else (fun _ _ => False)))))) (X' := (fun i => (bif Nat.beq i 2 then (s7_p5_den K (fun s w => B1 [s 3, s 4, s 5, s 20, s 21, s 22] w)) else (bif Nat.beq i 1 then (s7_p2_den K (fun s w => B1 [s 3, s 4, s 5, s 20, s 21, s 22] w)) else (bif Nat.beq i 0 then (s7_p1_den K) else (fun _ _ => False)))))) (R := s7_R K) (s := s) (w := w) (p := s7_p6 K B1 B2 (s 3) (s 4) (s 5) (s 20) (s 21) (s 22) (s 45) (s 46) (s 47) w) (q := s7_p6_den K (fun s w => B1 [s 3, s 4, s 5, s 20, s 21, s 22] w) (fun s w => B2 [s 3, s 4, s 5, s 20, s 21, s 22, s 45, s 46, s 47] w) s w) tr_id (fun i => (tr_bif (fun s w h => s7_p5_ok K B1 s w @h) (tr_bif (fun s w h => s7_p2_ok K B1 s w @h) (tr_bif (fun s w h => s7_p1_ok K s w @h) tr_id)))) (by kernel_rfl) (by kernel_rfl) @h
def s7_p7_F (K : Value → World → Prop) (B1 : List Value → World → Prop) (B2 : List Value → World → Prop) (l : List Value) (w : World) : Prop :=
  match l with
  | [t3, t4, t5, t20, t21, t22, t45, t46, t47] => s7_p6 K B1 B2 t3 t4 t5 t20 t21 t22 t45 t46 t47 w
  | _ => False
theorem s7_p7_Fe {K : Value → World → Prop} {B1 : List Value → World → Prop} {B2 : List Value → World → Prop} {t3 t4 t5 t20 t21 t22 t45 t46 t47 : Value} {w : World} : s7_p7_F K B1 B2 [t3, t4, t5, t20, t21, t22, t45, t46, t47] w = s7_p6 K B1 B2 t3 t4 t5 t20 t21 t22 t45 t46 t47 w := by kernel_rfl
def s7_p7 (K : Value → World → Prop) (B1 : List Value → World → Prop) (t3 t4 t5 t20 t21 t22 t45 t46 t47 : Value) (w : World) : Prop :=
  LoopL (s7_p7_F K B1) [t3, t4, t5, t20, t21, t22, t45, t46, t47] w
def s7_p7_den (K : Value → World → Prop) (M1 : (Nat → Value) → World → Prop) : (Nat → Value) → World → Prop := fun s w => LoopP (fun M2 s w => s7_p6_den K M1 M2 s w) s w
theorem s7_p7_ok (K : Value → World → Prop) (B1 : List Value → World → Prop) (s : Nat → Value) (w : World) (h : s7_p7 K B1 (s 3) (s 4) (s 5) (s 20) (s 21) (s 22) (s 45) (s 46) (s 47) w) : Tr (s7_p7_den K (fun s w => B1 [s 3, s 4, s 5, s 20, s 21, s 22] w) s w) :=
  tr_loop (G := fun N' s w => s7_p6_den K (fun s w => B1 [s 3, s 4, s 5, s 20, s 21, s 22] w) N' s w) (F := s7_p7_F K B1) (sel := fun s => [s 3, s 4, s 5, s 20, s 21, s 22, s 45, s 46, s 47]) (s := s) (w := w) (p := s7_p7 K B1 (s 3) (s 4) (s 5) (s 20) (s 21) (s 22) (s 45) (s 46) (s 47) w) (q := s7_p7_den K (fun s w => B1 [s 3, s 4, s 5, s 20, s 21, s 22] w) s w) (fun B s w h => s7_p6_ok K B1 B s w @h) (by kernel_rfl) (by kernel_rfl) @h
def s7_p8 (K : Value → World → Prop) (B1 : List Value → World → Prop) (t3 t4 t5 t20 t21 t22 : Value) (w : World) : Prop :=
  ixs 4 t20 t22 (fun t24 w =>
  ldn 4 t24 (fun t25 w =>
  nw 39 #[(.int .i64 0), (.slice none 0 0), (.int .i64 0), (.int .i64 0)] (fun t7 w =>
  stn 4 t7 t25 (fun w =>
  ldn 4 t7 (fun t26 w =>
  cl Tryz.prog 22 #[t26] (fun t27 w =>
  un .not t27 (fun t28 w =>
  ifb t28
  (s7_p2 K B1 t3 t4 t5 t20 t21 t22 w)
  (fd 1 t7 (fun t30 w =>
  ld1 t30 (fun t31 w =>
  bsq 37 [(.slice none 0 0)] 1 [(some (0, 1), t31)] (fun t32 w =>
  apq 37 [(.slice none 0 0)] 24 t5 t32 (fun t33 w =>
  fd 0 t7 (fun t34 w =>
  ld1 t34 (fun t35 w =>
  boI .eql t35 (.int .i64 4) (fun t36 w =>
  ifb t36
  (s7_p2 K B1 t3 t4 t33 t20 t21 t22 w)
  (cl Tryz.prog 37 #[t3, t33] (fun t39 w =>
  lnS t39 (fun t41 w =>
  lnS t33 (fun t43 w =>
  boI .neq t41 t43 (fun t44 w =>
  ifb t44
  (K (.bool false) w)
  (lnS t39 (fun t46 w =>
  s7_p7 K B1 t3 t4 t33 t20 t21 t22 t39 t46 (.int .i64 0) w) w)) w) w) w) w)) w) w) w) w) w) w) w)) w) w) w) w) w) w) w
def s7_p8_den (K : Value → World → Prop) (M1 : (Nat → Value) → World → Prop) : (Nat → Value) → World → Prop := denL Tryz.prog [(cd (Tryz.f7.body.getD .skip) [1, 1, 1, 1, 0, 1, 0, 0, 1, 1, 0, 0, 0]), (cd (Tryz.f7.body.getD .skip) [1, 1, 1, 1, 0, 1, 0, 0, 1, 1, 0, 0, 1, 0, 0]), (cd (Tryz.f7.body.getD .skip) [1, 1, 1, 1, 0, 1, 0, 0, 1, 1, 0, 0, 1, 0, 1]), (cd (Tryz.f7.body.getD .skip) [1, 1, 1, 1, 0, 1, 0, 0, 1, 1, 0, 0, 1, 1, 0]), (cd (Tryz.f7.body.getD .skip) [1, 1, 1, 1, 0, 1, 0, 0, 1, 1, 0, 0, 1, 1, 1, 0, 0]), (cd (Tryz.f7.body.getD .skip) [1, 1, 1, 1, 0, 1, 0, 0, 1, 1, 0, 0, 1, 1, 1, 0, 1]), (cd (Tryz.f7.body.getD .skip) [1, 1, 1, 1, 0, 1, 0, 0, 1, 1, 0, 0, 1, 1, 1, 1, 0]), (cd (Tryz.f7.body.getD .skip) [1, 1, 1, 1, 0, 1, 0, 0, 1, 1, 0, 0, 1, 1, 1, 1, 1, 0, 0]), (cd (Tryz.f7.body.getD .skip) [1, 1, 1, 1, 0, 1, 0, 0, 1, 1, 0, 0, 1, 1, 1, 1, 1, 0, 1]), (cd (Tryz.f7.body.getD .skip) [1, 1, 1, 1, 0, 1, 0, 0, 1, 1, 0, 0, 1, 1, 1, 1, 1, 1, 0, 0])] (s7_p7_den K M1) (fun i => (bif Nat.beq i 1 then (s7_p2_den K M1) else (bif Nat.beq i 0 then (s7_p1_den K) else (fun _ _ => False)))) (s7_R K)
theorem s7_p8_ok (K : Value → World → Prop) (B1 : List Value → World → Prop) (s : Nat → Value) (w : World) (h : s7_p8 K B1 (s 3) (s 4) (s 5) (s 20) (s 21) (s 22) w) : Tr (s7_p8_den K (fun s w => B1 [s 3, s 4, s 5, s 20, s 21, s 22] w) s w) :=
  tr_simple (P := Tryz.prog) (codes := [(cd (Tryz.f7.body.getD .skip) [1, 1, 1, 1, 0, 1, 0, 0, 1, 1, 0, 0, 0]), (cd (Tryz.f7.body.getD .skip) [1, 1, 1, 1, 0, 1, 0, 0, 1, 1, 0, 0, 1, 0, 0]), (cd (Tryz.f7.body.getD .skip) [1, 1, 1, 1, 0, 1, 0, 0, 1, 1, 0, 0, 1, 0, 1]), (cd (Tryz.f7.body.getD .skip) [1, 1, 1, 1, 0, 1, 0, 0, 1, 1, 0, 0, 1, 1, 0]), (cd (Tryz.f7.body.getD .skip) [1, 1, 1, 1, 0, 1, 0, 0, 1, 1, 0, 0, 1, 1, 1, 0, 0]), (cd (Tryz.f7.body.getD .skip) [1, 1, 1, 1, 0, 1, 0, 0, 1, 1, 0, 0, 1, 1, 1, 0, 1]), (cd (Tryz.f7.body.getD .skip) [1, 1, 1, 1, 0, 1, 0, 0, 1, 1, 0, 0, 1, 1, 1, 1, 0]), (cd (Tryz.f7.body.getD .skip) [1, 1, 1, 1, 0, 1, 0, 0, 1, 1, 0, 0, 1, 1, 1, 1, 1, 0, 0]), (cd (Tryz.f7.body.getD .skip) [1, 1, 1, 1, 0, 1, 0, 0, 1, 1, 0, 0, 1, 1, 1, 1, 1, 0, 1]), (cd (Tryz.f7.body.getD .skip) [1, 1, 1, 1, 0, 1, 0, 0, 1, 1, 0, 0, 1, 1, 1, 1, 1, 1, 0, 0])]) (N := (fun s w => s7_p7 K B1 (s 3) (s 4) (s 5) (s 20) (s 21) (s 22) (s 45) (s 46) (s 47) w)) (N' := (s7_p7_den K (fun s w => B1 [s 3, s 4, s 5, s 20, s 21, s 22] w))) (X := (fun i => (bif Nat.beq i 1 then (fun s w => s7_p2 K B1 (s 3) (s 4) (s 5) (s 20) (s 21) (s 22) w) else (bif Nat.beq i 0 then (fun s w => s7_p1 K w) else (fun _ _ => False))))) (X' := (fun i => (bif Nat.beq i 1 then (s7_p2_den K (fun s w => B1 [s 3, s 4, s 5, s 20, s 21, s 22] w)) else (bif Nat.beq i 0 then (s7_p1_den K) else (fun _ _ => False))))) (R := s7_R K) (s := s) (w := w) (p := s7_p8 K B1 (s 3) (s 4) (s 5) (s 20) (s 21) (s 22) w) (q := s7_p8_den K (fun s w => B1 [s 3, s 4, s 5, s 20, s 21, s 22] w) s w) (fun s w h => s7_p7_ok K B1 s w @h) (fun i => (tr_bif (fun s w h => s7_p2_ok K B1 s w @h) (tr_bif (fun s w h => s7_p1_ok K s w @h) tr_id))) (by kernel_rfl) (by kernel_rfl) @h
def s7_p9 (K : Value → World → Prop) (B1 : List Value → World → Prop) (t3 t4 t5 t20 t21 t22 : Value) (w : World) : Prop :=
  boI .lss t22 t21 (fun t23 w =>
  ifb t23
  (s7_p8 K B1 t3 t4 t5 t20 t21 t22 w)
  (s7_p1 K w)) w
def s7_p9_den (K : Value → World → Prop) (M1 : (Nat → Value) → World → Prop) : (Nat → Value) → World → Prop := denL Tryz.prog [(cd (Tryz.f7.body.getD .skip) [1, 1, 1, 1, 0, 1, 0, 0, 0]), (cd (Tryz.f7.body.getD .skip) [1, 1, 1, 1, 0, 1, 0, 0, 1, 0])] (s7_p8_den K M1) (fun i => (bif Nat.beq i 0 then (s7_p1_den K) else (fun _ _ => False))) (s7_R K)
theorem s7_p9_ok (K : Value → World → Prop) (B1 : List Value → World → Prop) (s : Nat → Value) (w : World) (h : s7_p9 K B1 (s 3) (s 4) (s 5) (s 20) (s 21) (s 22) w) : Tr (s7_p9_den K (fun s w => B1 [s 3, s 4, s 5, s 20, s 21, s 22] w) s w) :=
  tr_simple (P := Tryz.prog) (codes := [(cd (Tryz.f7.body.getD .skip) [1, 1, 1, 1, 0, 1, 0, 0, 0]), (cd (Tryz.f7.body.getD .skip) [1, 1, 1, 1, 0, 1, 0, 0, 1, 0])]) (N := (fun s w => s7_p8 K B1 (s 3) (s 4) (s 5) (s 20) (s 21) (s 22) w)) (N' := (s7_p8_den K (fun s w => B1 [s 3, s 4, s 5, s 20, s 21, s 22] w))) (X := (fun i => (bif Nat.beq i 0 then (fun s w => s7_p1 K w) else (fun _ _ => False)))) (X' := (fun i => (bif Nat.beq i 0 then (s7_p1_den K) else (fun _ _ => False)))) (R := s7_R K) (s := s) (w := w) (p := s7_p9 K B1 (s 3) (s 4) (s 5) (s 20) (s 21) (s 22) w) (q := s7_p9_den K (fun s w => B1 [s 3, s 4, s 5, s 20, s 21, s 22] w) s w) (fun s w h => s7_p8_ok K B1 s w @h) (fun i => (tr_bif (fun s w h => s7_p1_ok K s w @h) tr_id)) (by kernel_rfl) (by kernel_rfl) @h
def s7_p10_F (K : Value → World → Prop) (B1 : List Value → World → Prop) (l : List Value) (w : World) : Prop :=
  match l with
  | [t3, t4, t5, t20, t21, t22] => s7_p9 K B1 t3 t4 t5 t20 t21 t22 w
  | _ => False
theorem s7_p10_Fe {K : Value → World → Prop} {B1 : List Value → World → Prop} {t3 t4 t5 t20 t21 t22 : Value} {w : World} : s7_p10_F K B1 [t3, t4, t5, t20, t21, t22] w = s7_p9 K B1 t3 t4 t5 t20 t21 t22 w := by kernel_rfl
def s7_p10 (K : Value → World → Prop) (t3 t4 t5 t20 t21 t22 : Value) (w : World) : Prop :=
  LoopL (s7_p10_F K) [t3, t4, t5, t20, t21, t22] w
def s7_p10_den (K : Value → World → Prop) : (Nat → Value) → World → Prop := fun s w => LoopP (fun M1 s w => s7_p9_den K M1 s w) s w
theorem s7_p10_ok (K : Value → World → Prop) (s : Nat → Value) (w : World) (h : s7_p10 K (s 3) (s 4) (s 5) (s 20) (s 21) (s 22) w) : Tr (s7_p10_den K s w) :=
  tr_loop (G := fun N' s w => s7_p9_den K N' s w) (F := s7_p10_F K) (sel := fun s => [s 3, s 4, s 5, s 20, s 21, s 22]) (s := s) (w := w) (p := s7_p10 K (s 3) (s 4) (s 5) (s 20) (s 21) (s 22) w) (q := s7_p10_den K s w) (fun B s w h => s7_p9_ok K B s w @h) (by kernel_rfl) (by kernel_rfl) @h
def s7_p11 (K : Value → World → Prop) (t0 : Value) (w : World) : Prop :=
  cl Tryz.prog 17 #[t0] (fun t14 w =>
  un .not t14 (fun t15 w =>
  ifb t15
  (K (.bool true) w)
  (cl Tryz.prog 19 #[] (fun t16 w =>
  cl Tryz.prog 18 #[t16] (fun t17 w =>
  cl Tryz.prog 21 #[] (fun t18 w =>
  cl Tryz.prog 20 #[t18] (fun t19 w =>
  lnS t0 (fun t21 w =>
  s7_p10 K t17 t19 (.slice none 0 0) t0 t21 (.int .i64 0) w) w) w) w) w) w)) w) w
def s7_p11_den (K : Value → World → Prop) : (Nat → Value) → World → Prop := denL Tryz.prog [(cd (Tryz.f7.body.getD .skip) [0]), (cd (Tryz.f7.body.getD .skip) [1, 0, 0]), (cd (Tryz.f7.body.getD .skip) [1, 0, 1]), (cd (Tryz.f7.body.getD .skip) [1, 1, 0]), (cd (Tryz.f7.body.getD .skip) [1, 1, 1, 0]), (cd (Tryz.f7.body.getD .skip) [1, 1, 1, 1, 0, 0])] (s7_p10_den K) (fun i => (fun _ _ => False)) (s7_R K)
theorem s7_p11_ok (K : Value → World → Prop) (s : Nat → Value) (w : World) (h : s7_p11 K (s 0) w) : Tr (s7_p11_den K s w) :=
  tr_simple (P := Tryz.prog) (codes := [(cd (Tryz.f7.body.getD .skip) [0]), (cd (Tryz.f7.body.getD .skip) [1, 0, 0]), (cd (Tryz.f7.body.getD .skip) [1, 0, 1]), (cd (Tryz.f7.body.getD .skip) [1, 1, 0]), (cd (Tryz.f7.body.getD .skip) [1, 1, 1, 0]), (cd (Tryz.f7.body.getD .skip) [1, 1, 1, 1, 0, 0])]) (N := (fun s w => s7_p10 K (s 3) (s 4) (s 5) (s 20) (s 21) (s 22) w)) (N' := (s7_p10_den K)) (X := (fun i => (fun _ _ => False))) (X' := (fun i => (fun _ _ => False))) (R := s7_R K) (s := s) (w := w) (p := s7_p11 K (s 0) w) (q := s7_p11_den K s w) (fun s w h => s7_p10_ok K s w @h) (fun i => tr_id) (by kernel_rfl) (by kernel_rfl) @h
/-- the call, from the text -/
theorem c7 (t0 : Value) {K : Value → World → Prop} {w : World} (h : s7_p11 K t0 w) : cl Tryz.prog 7 #[t0] K w :=
  calls_of_tr (c := (Tryz.f7.body.getD .skip)) (fn := Tryz.f7) (q := s7_p11_den K (st0 #[t0]) w) Tryz.func7 (by kernel_rfl) (by kernel_rfl) (Nat.le_of_ble_eq_true (by kernel_rfl)) (by kernel_rfl) (by kernel_rfl) (s7_p11_ok K (st0 #[t0]) w @h)

end Go.Proofs.Qxb6500896aGreat
