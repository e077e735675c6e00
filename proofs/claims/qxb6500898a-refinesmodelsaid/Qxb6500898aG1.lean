import Derived.Test.Qxb6500898aProg
import Derived.Test.Qxb6500898aShTr
namespace Go.Proofs.Qxb6500898a
open Go.Sh Go.RowKit
set_option linter.unusedVariables false
set_option maxRecDepth 100000

/-! ### function 9 : e2e.octetslaw.UTF16EveryCodePoint -/
def s9_R (K : Value → World → Prop) (s : Nat → Value) (w : World) : Prop := retv Try.prog s Try.f9.results.toList (fun vs => K (pack vs) w) w
def s9_p1 (K : Value → World → Prop) (w : World) : Prop :=
  K (.bool true) w
def s9_p1_den (K : Value → World → Prop) : (Nat → Value) → World → Prop := denL Try.prog [(cd (Try.f9.body.getD .skip) [1, 1, 1, 1, 0]), (cd (Try.f9.body.getD .skip) [1, 1, 1, 1, 1])] (fun _ _ => False) (fun i => (fun _ _ => False)) (s9_R K)
theorem s9_p1_ok (K : Value → World → Prop) (s : Nat → Value) (w : World) (h : s9_p1 K w) : Tr (s9_p1_den K s w) :=
  tr_simple (P := Try.prog) (codes := [(cd (Try.f9.body.getD .skip) [1, 1, 1, 1, 0]), (cd (Try.f9.body.getD .skip) [1, 1, 1, 1, 1])]) (N := (fun _ _ => False)) (N' := (fun _ _ => False)) (X := (fun i => (fun _ _ => False))) (X' := (fun i => (fun _ _ => False))) (R := s9_R K) (s := s) (w := w) (p := s9_p1 K w) (q := s9_p1_den K s w) tr_id (fun i => tr_id) (by kernel_rfl) (by kernel_rfl) @h
def s9_p2 (K : Value → World → Prop) (B1 : List Value → World → Prop) (t7 t8 : Value) (w : World) : Prop :=
  boI .add t8 (.int .i64 1) (fun t59 w =>
  B1 [t7, t59] w) w
def s9_p2_den (K : Value → World → Prop) (M1 : (Nat → Value) → World → Prop) : (Nat → Value) → World → Prop := denL Try.prog [(cd (Try.f9.body.getD .skip) [1, 1, 1, 0, 1, 0, 0, 1, 1])] M1 (fun i => (bif Nat.beq i 4 then (s9_p1_den K) else (fun _ _ => False))) (s9_R K)
theorem s9_p2_ok (K : Value → World → Prop) (B1 : List Value → World → Prop) (s : Nat → Value) (w : World) (h : s9_p2 K B1 (s 7) (s 8) w) : Tr (s9_p2_den K (fun s w => B1 [s 7, s 8] w) s w) :=
  tr_simple (P := Try.prog) (codes := [(cd (Try.f9.body.getD .skip) [1, 1, 1, 0, 1, 0, 0, 1, 1])]) (N := (fun s w => B1 [s 7, s 8] w)) (N' := (fun s w => B1 [s 7, s 8] w)) (X := (fun i => (bif Nat.beq i 4 then (fun s w => s9_p1 K w) else (fun _ _ => False)))) (X' := (fun i => (bif Nat.beq i 4 then (s9_p1_den K) else (fun _ _ => False)))) (R := s9_R K) (s := s) (w := w) (p := s9_p2 K B1 (s 7) (s 8) w) (q := s9_p2_den K (fun s w => B1 [s 7, s 8] w) s w) tr_id (fun i => (tr_bif (fun s w h => s9_p1_ok K s w @h) tr_id)) (by kernel_rfl) (by kernel_rfl) @h
def s9_p3 (K : Value → World → Prop) (B1 : List Value → World → Prop) (B2 : List Value → World → Prop) (t7 t8 t9 : Value) (w : World) : Prop :=
  boI .add t9 (.int .i64 1) (fun t68 w =>
  B2 [t7, t8, t68] w) w
def s9_p3_den (K : Value → World → Prop) (M1 : (Nat → Value) → World → Prop) (M2 : (Nat → Value) → World → Prop) : (Nat → Value) → World → Prop := denL Try.prog [(cd (Try.f9.body.getD .skip) [1, 1, 1, 0, 1, 0, 0, 1, 0, 0, 1, 1, 0, 0, 1, 1])] M2 (fun i => (bif Nat.beq i 6 then (s9_p2_den K M1) else (bif Nat.beq i 5 then (s9_p2_den K M1) else (bif Nat.beq i 4 then (s9_p1_den K) else (fun _ _ => False))))) (s9_R K)
theorem s9_p3_ok (K : Value → World → Prop) (B1 : List Value → World → Prop) (B2 : List Value → World → Prop) (s : Nat → Value) (w : World) (h : s9_p3 K B1 B2 (s 7) (s 8) (s 9) w) : Tr (s9_p3_den K (fun s w => B1 [s 7, s 8] w) (fun s w => B2 [s 7, s 8, s 9] w) s w) :=
  tr_simple (P := Try.prog) (codes := [(cd (Try.f9.body.getD .skip) [1, 1, 1, 0, 1, 0, 0, 1, 0, 0, 1, 1, 0, 0, 1, 1])]) (N := (fun s w => B2 [s 7, s 8, s 9] w)) (N' := (fun s w => B2 [s 7, s 8, s 9] w)) (X := (fun i => (bif Nat.beq i 6 then (fun s w => s9_p2 K B1 (s 7) (s 8) w) else (bif Nat.beq i 5 then (fun s w => s9_p2 K B1 (s 7) (s 8) w) else (bif Nat.beq i 4 then (fun s w => s9_p1 K w) else (fun _ _ => False)))))) (X' := (fun i => (bif Nat.beq i 6 then (s9_p2_den K (fun s w => B1 [s 7, s 8] w)) else (bif Nat.beq i 5 then (s9_p2_den K (fun s w => B1 [s 7, s 8] w)) else (bif Nat.beq i 4 then (s9_p1_den K) else (fun _ _ => False)))))) (R := s9_R K) (s := s) (w := w) (p := s9_p3 K B1 B2 (s 7) (s 8) (s 9) w) (q := s9_p3_den K (fun s w => B1 [s 7, s 8] w) (fun s w => B2 [s 7, s 8, s 9] w) s w) tr_id (fun i => (tr_bif (fun s w h => s9_p2_ok K B1 s w @h) (tr_bif (fun s w h => s9_p2_ok K B1 s w @h) (tr_bif (fun s w h => s9_p1_ok K s w @h) tr_id)))) (by kernel_rfl) (by kernel_rfl) @h
def s9_p4 (K : Value → World → Prop) (B1 : List Value → World → Prop) (B2 : List Value → World → Prop) (B3 : List Value → World → Prop) (t7 t8 t9 t76 t77 t78 : Value) (w : World) : Prop :=
  boI .add t78 (.int .i64 1) (fun t106 w =>
  B3 [t7, t8, t9, t76, t77, t106] w) w
def s9_p4_den (K : Value → World → Prop) (M1 : (Nat → Value) → World → Prop) (M2 : (Nat → Value) → World → Prop) (M3 : (Nat → Value) → World → Prop) : (Nat → Value) → World → Prop := denL Try.prog [(cd (Try.f9.body.getD .skip) [1, 1, 1, 0, 1, 0, 0, 1, 0, 0, 1, 1, 0, 0, 1, 0, 0, 1, 1, 0, 0, 1, 1, 1])] M3 (fun i => (bif Nat.beq i 8 then (s9_p3_den K M1 M2) else (bif Nat.beq i 7 then (s9_p3_den K M1 M2) else (bif Nat.beq i 6 then (s9_p2_den K M1) else (bif Nat.beq i 5 then (s9_p2_den K M1) else (bif Nat.beq i 4 then (s9_p1_den K) else (fun _ _ => False))))))) (s9_R K)
theorem s9_p4_ok (K : Value → World → Prop) (B1 : List Value → World → Prop) (B2 : List Value → World → Prop) (B3 : List Value → World → Prop) (s : Nat → Value) (w : World) (h : s9_p4 K B1 B2 B3 (s 7) (s 8) (s 9) (s 76) (s 77) (s 78) w) : Tr (s9_p4_den K (fun s w => B1 [s 7, s 8] w) (fun s w => B2 [s 7, s 8, s 9] w) (fun s w => B3 [s 7, s 8, s 9, s 76, s 77, s 78] w) s w) :=
  tr_simple (P := Try.prog) (codes := [(cd (Try.f9.body.getD .skip) [1, 1, 1, 0, 1, 0, 0, 1, 0, 0, 1, 1, 0, 0, 1, 0, 0, 1, 1, 0, 0, 1, 1, 1])]) (N := (fun s w => B3 [s 7, s 8, s 9, s 76, s 77, s 78] w)) (N' := (fun s w => B3 [s 7, s 8, s 9, s 76, s 77, s 78] w)) (X := (fun i => (bif Nat.beq i 8 then (fun s w => s9_p3 K B1 B2 (s 7) (s 8) (s 9) w) else (bif Nat.beq i 7 then (fun s w => s9_p3 K B1 B2 (s 7) (s 8) (s 9) w) else (bif Nat.beq i 6 then (fun s w => s9_p2 K B1 (s 7) (s 8) w) else (bif Nat.beq i 5 then (fun s w => s9_p2 K B1 (s 7) (s 8) w) else (bif Nat.beq i 4 then (fun s w => s9_p1 K w) else (fun _ _ => False)))))))) (X' := (fun i => (bif Nat.beq i 8 then (s9_p3_den K (fun s w => B1 [s 7, s 8] w) (fun s w => B2 [s 7, s 8, s 9] w)) else (bif Nat.beq i 7 then (s9_p3_den K (fun s w => B1 [s 7, s 8] w) (fun s w => B2 [s 7, s 8, s 9] w)) else (bif Nat.beq i 6 then (s9_p2_den K (fun s w => B1 [s 7, s 8] w)) else (bif Nat.beq i 5 then (s9_p2_den K (fun s w => B1 [s 7, s 8] w)) else (bif Nat.beq i 4 then (s9_p1_den K) else (fun _ _ => False)))))))) (R := s9_R K) (s := s) (w := w) (p := s9_p4 K B1 B2 B3 (s 7) (s 8) (s 9) (s 76) (s 77) (s 78) w) (q := s9_p4_den K (fun s w => B1 [s 7, s 8] w) (fun s w => B2 [s 7, s 8, s 9] w) (fun s w => B3 [s 7, s 8, s 9, s 76, s 77, s 78] w) s w) tr_id (fun i => (tr_bif (fun s w h => s9_p3_ok K B1 B2 s w @h) (tr_bif (fun s w h => s9_p3_ok K B1 B2 s w @h) (tr_bif (fun s w h => s9_p2_ok K B1 s w @h) (tr_bif (fun s w h => s9_p2_ok K B1 s w @h) (tr_bif (fun s w h => s9_p1_ok K s w @h) tr_id)))))) (by kernel_rfl) (by kernel_rfl) @h
def s9_p5 (K : Value → World → Prop) (B1 : List Value → World → Prop) (B2 : List Value → World → Prop) (B3 : List Value → World → Prop) (B4 : List Value → World → Prop) (t7 t8 t9 t11 t76 t77 t78 t90 t91 t92 : Value) (w : World) : Prop :=
  boI .lss t92 t91 (fun t93 w =>
  ifb t93
  (ixs 1 t90 t92 (fun t94 w =>
  ld1 t94 (fun t95 w =>
  cvi .u8 t8 (fun t97 w =>
  cvi .u8 t9 (fun t99 w =>
  bsq 5 [(.int .u8 0)] 4 [(some (0, 1), t97), (some (1, 1), t99), (some (2, 1), t11), (some (3, 1), t95)] (fun t102 w =>
  cl Try.prog 21 #[t102] (fun t103 w =>
  un .not t103 (fun t104 w =>
  ifb t104
  (K (.bool false) w)
  (boI .add t92 (.int .i64 1) (fun t105 w =>
  B4 [t7, t8, t9, t11, t76, t77, t78, t90, t91, t105] w) w)) w) w) w) w) w) w) w)
  (s9_p4 K B1 B2 B3 t7 t8 t9 t76 t77 t78 w)) w
def s9_p5_den (K : Value → World → Prop) (M1 : (Nat → Value) → World → Prop) (M2 : (Nat → Value) → World → Prop) (M3 : (Nat → Value) → World → Prop) (M4 : (Nat → Value) → World → Prop) : (Nat → Value) → World → Prop := denL Try.prog [(cd (Try.f9.body.getD .skip) [1, 1, 1, 0, 1, 0, 0, 1, 0, 0, 1, 1, 0, 0, 1, 0, 0, 1, 1, 0, 0, 1, 1, 0, 0, 1, 1, 1, 0, 0, 0]), (cd (Try.f9.body.getD .skip) [1, 1, 1, 0, 1, 0, 0, 1, 0, 0, 1, 1, 0, 0, 1, 0, 0, 1, 1, 0, 0, 1, 1, 0, 0, 1, 1, 1, 0, 0, 1, 0]), (cd (Try.f9.body.getD .skip) [1, 1, 1, 0, 1, 0, 0, 1, 0, 0, 1, 1, 0, 0, 1, 0, 0, 1, 1, 0, 0, 1, 1, 0, 0, 1, 1, 1, 0, 0, 1, 1, 0]), (cd (Try.f9.body.getD .skip) [1, 1, 1, 0, 1, 0, 0, 1, 0, 0, 1, 1, 0, 0, 1, 0, 0, 1, 1, 0, 0, 1, 1, 0, 0, 1, 1, 1, 0, 0, 1, 1, 1])] M4 (fun i => (bif Nat.beq i 10 then (s9_p4_den K M1 M2 M3) else (bif Nat.beq i 9 then (s9_p4_den K M1 M2 M3) else (bif Nat.beq i 8 then (s9_p3_den K M1 M2) else (bif Nat.beq i 7 then (s9_p3_den K M1 M2) else (bif Nat.beq i 6 then (s9_p2_den K M1) else (bif Nat.beq i 5 then (s9_p2_den K M1) else (bif Nat.beq i 4 then (s9_p1_den K) else (fun _ _ => False))))))))) (s9_R K)
theorem s9_p5_ok (K : Value → World → Prop) (B1 : List Value → World → Prop) (B2 : List Value → World → Prop) (B3 : List Value → World → Prop) (B4 : List Value → World → Prop) (s : Nat → Value) (w : World) (h : s9_p5 K B1 B2 B3 B4 (s 7) (s 8) (s 9) (s 11) (s 76) (s 77) (s 78) (s 90) (s 91) (s 92) w) : Tr (s9_p5_den K (fun s w => B1 [s 7, s 8] w) (fun s w => B2 [s 7, s 8, s 9] w) (fun s w => B3 [s 7, s 8, s 9, s 76, s 77, s 78] w) (fun s w => B4 [s 7, s 8, s 9, s 11, s 76, s 77, s 78, s 90, s 91, s 92] w) s w) :=
  tr_simple (P := Try.prog) (codes := [(cd (Try.f9.body.getD .skip) [1, 1, 1, 0, 1, 0, 0, 1, 0, 0, 1, 1, 0, 0, 1, 0, 0, 1, 1, 0, 0, 1, 1, 0, 0, 1, 1, 1, 0, 0, 0]), (cd (Try.f9.body.getD .skip) [1, 1, 1, 0, 1, 0, 0, 1, 0, 0, 1, 1, 0, 0, 1, 0, 0, 1, 1, 0, 0, 1, 1, 0, 0, 1, 1, 1, 0, 0, 1, 0]), (cd (Try.f9.body.getD .skip) [1, 1, 1, 0, 1, 0, 0, 1, 0, 0, 1, 1, 0, 0, 1, 0, 0, 1, 1, 0, 0, 1, 1, 0, 0, 1, 1, 1, 0, 0, 1, 1, 0]), (cd (Try.f9.body.getD .skip) [1, 1, 1, 0, 1, 0, 0, 1, 0, 0, 1, 1, 0, 0, 1, 0, 0, 1, 1, 0, 0, 1, 1, 0, 0, 1, 1, 1, 0, 0, 1, 1, 1])]) (N := (fun s w => B4 [s 7, s 8, s 9, s 11, s 76, s 77, s 78, s 90, s 91, s 92] w)) (N' := (fun s w => B4 [s 7, s 8, s 9, s 11, s 76, s 77, s 78, s 90, s 91, s 92] w)) (X := (fun i => (bif Nat.beq i 10 then (fun s w => s9_p4 K B1 B2 B3 (s 7) (s 8) (s 9) (s 76) (s 77) (s 78) w) else (bif Nat.beq i 9 then (fun s w => s9_p4 K B1 B2 B3 (s 7) (s 8) (s 9) (s 76) (s 77) (s 78) w) else (bif Nat.beq i 8 then (fun s w => s9_p3 K B1 B2 (s 7) (s 8) (s 9) w) else (bif Nat.beq i 7 then (fun s w => s9_p3 K B1 B2 (s 7) (s 8) (s 9) w) else (bif Nat.beq i 6 then (fun s w => s9_p2 K B1 (s 7) (s 8) w) else (bif Nat.beq i 5 then (fun s w => s9_p2 K B1 (s 7) (s 8) w) else (bif Nat.beq i 4 then (fun s w => s9_p1 K w) else (fun _ _ => False)))))))))) (X' := (fun i => (bif Nat.beq i 10 then (s9_p4_den K (fun s w => B1 [s 7, s 8] w) (fun s w => B2 [s 7, s 8, s 9] w) (fun s w => B3 [s 7, s 8, s 9, s 76, s 77, s 78] w)) else (bif Nat.beq i 9 then (s9_p4_den K (fun s w => B1 [s 7, s 8] w) (fun s w => B2 [s 7, s 8, s 9] w) (fun s w => B3 [s 7, s 8, s 9, s 76, s 77, s 78] w)) else (bif Nat.beq i 8 then (s9_p3_den K (fun s w => B1 [s 7, s 8] w) (fun s w => B2 [s 7, s 8, s 9] w)) else (bif Nat.beq i 7 then (s9_p3_den K (fun s w => B1 [s 7, s 8] w) (fun s w => B2 [s 7, s 8, s 9] w)) else (bif Nat.beq i 6 then (s9_p2_den K (fun s w => B1 [s 7, s 8] w)) else (bif Nat.beq i 5 then (s9_p2_den K (fun s w => B1 [s 7, s 8] w)) else (bif Nat.beq i 4 then (s9_p1_den K) else (fun _ _ => False)))))))))) (R := s9_R K) (s := s) (w := w) (p := s9_p5 K B1 B2 B3 B4 (s 7) (s 8) (s 9) (s 11) (s 76) (s 77) (s 78) (s 90) (s 91) (s 92) w) (q := s9_p5_den K (fun s w => B1 [s 7, s 8] w) (fun s w => B2 [s 7, s 8, s 9] w) (fun s w => B3 [s 7, s 8, s 9, s 76, s 77, s 78] w) (fun s w => B4 [s 7, s 8, s 9, s 11, s 76, s 77, s 78, s 90, s 91, s 92] w) s w) tr_id (fun i => (tr_bif (fun s w h => s9_p4_ok K B1 B2 B3 s w @h) (tr_bif (fun s w h => s9_p4_ok K B1 B2 B3 s w @h) (tr_bif (fun s w h => s9_p3_ok K B1 B2 s w @h) (tr_bif (fun s w h => s9_p3_ok K B1 B2 s w @h) (tr_bif (fun s w h => s9_p2_ok K B1 s w @h) (tr_bif (fun s w h => s9_p2_ok K B1 s w @h) (tr_bif (fun s w h => s9_p1_ok K s w @h) tr_id)))))))) (by kernel_rfl) (by kernel_rfl) @h
def s9_p6_F (K : Value → World → Prop) (B1 : List Value → World → Prop) (B2 : List Value → World → Prop) (B3 : List Value → World → Prop) (B4 : List Value → World → Prop) (l : List Value) (w : World) : Prop :=
  match l with
  | [t7, t8, t9, t11, t76, t77, t78, t90, t91, t92] => s9_p5 K B1 B2 B3 B4 t7 t8 t9 t11 t76 t77 t78 t90 t91 t92 w
  | _ => False
theorem s9_p6_Fe {K : Value → World → Prop} {B1 : List Value → World → Prop} {B2 : List Value → World → Prop} {B3 : List Value → World → Prop} {B4 : List Value → World → Prop} {t7 t8 t9 t11 t76 t77 t78 t90 t91 t92 : Value} {w : World} : s9_p6_F K B1 B2 B3 B4 [t7, t8, t9, t11, t76, t77, t78, t90, t91, t92] w = s9_p5 K B1 B2 B3 B4 t7 t8 t9 t11 t76 t77 t78 t90 t91 t92 w := by kernel_rfl
def s9_p6 (K : Value → World → Prop) (B1 : List Value → World → Prop) (B2 : List Value → World → Prop) (B3 : List Value → World → Prop) (t7 t8 t9 t11 t76 t77 t78 t90 t91 t92 : Value) (w : World) : Prop :=
  LoopL (s9_p6_F K B1 B2 B3) [t7, t8, t9, t11, t76, t77, t78, t90, t91, t92] w
def s9_p6_den (K : Value → World → Prop) (M1 : (Nat → Value) → World → Prop) (M2 : (Nat → Value) → World → Prop) (M3 : (Nat → Value) → World → Prop) : (Nat → Value) → World → Prop := fun s w => LoopP (fun M4 s w => s9_p5_den K M1 M2 M3 M4 s w) s w
theorem s9_p6_ok (K : Value → World → Prop) (B1 : List Value → World → Prop) (B2 : List Value → World → Prop) (B3 : List Value → World → Prop) (s : Nat → Value) (w : World) (h : s9_p6 K B1 B2 B3 (s 7) (s 8) (s 9) (s 11) (s 76) (s 77) (s 78) (s 90) (s 91) (s 92) w) : Tr (s9_p6_den K (fun s w => B1 [s 7, s 8] w) (fun s w => B2 [s 7, s 8, s 9] w) (fun s w => B3 [s 7, s 8, s 9, s 76, s 77, s 78] w) s w) :=
  tr_loop (G := fun N' s w => s9_p5_den K (fun s w => B1 [s 7, s 8] w) (fun s w => B2 [s 7, s 8, s 9] w) (fun s w => B3 [s 7, s 8, s 9, s 76, s 77, s 78] w) N' s w) (F := s9_p6_F K B1 B2 B3) (sel := fun s => [s 7, s 8, s 9, s 11, s 76, s 77, s 78, s 90, s 91, s 92]) (s := s) (w := w) (p := s9_p6 K B1 B2 B3 (s 7) (s 8) (s 9) (s 11) (s 76) (s 77) (s 78) (s 90) (s 91) (s 92) w) (q := s9_p6_den K (fun s w => B1 [s 7, s 8] w) (fun s w => B2 [s 7, s 8, s 9] w) (fun s w => B3 [s 7, s 8, s 9, s 76, s 77, s 78] w) s w) (fun B s w h => s9_p5_ok K B1 B2 B3 B s w @h) (by kernel_rfl) (by kernel_rfl) @h
def s9_p7 (K : Value → World → Prop) (B1 : List Value → World → Prop) (B2 : List Value → World → Prop) (B3 : List Value → World → Prop) (t7 t8 t9 t76 t77 t78 : Value) (w : World) : Prop :=
  ixs 1 t76 t78 (fun t80 w =>
  ld1 t80 (fun t81 w =>
  cvi .u8 t8 (fun t83 w =>
  cvi .u8 t9 (fun t85 w =>
  bsq 5 [(.int .u8 0)] 3 [(some (0, 1), t83), (some (1, 1), t85), (some (2, 1), t81)] (fun t87 w =>
  cl Try.prog 21 #[t87] (fun t88 w =>
  un .not t88 (fun t89 w =>
  ifb t89
  (K (.bool false) w)
  (lnS t7 (fun t91 w =>
  s9_p6 K B1 B2 B3 t7 t8 t9 t81 t76 t77 t78 t7 t91 (.int .i64 0) w) w)) w) w) w) w) w) w) w
def s9_p7_den (K : Value → World → Prop) (M1 : (Nat → Value) → World → Prop) (M2 : (Nat → Value) → World → Prop) (M3 : (Nat → Value) → World → Prop) : (Nat → Value) → World → Prop := denL Try.prog [(cd (Try.f9.body.getD .skip) [1, 1, 1, 0, 1, 0, 0, 1, 0, 0, 1, 1, 0, 0, 1, 0, 0, 1, 1, 0, 0, 1, 1, 0, 0, 0]), (cd (Try.f9.body.getD .skip) [1, 1, 1, 0, 1, 0, 0, 1, 0, 0, 1, 1, 0, 0, 1, 0, 0, 1, 1, 0, 0, 1, 1, 0, 0, 1, 0, 0]), (cd (Try.f9.body.getD .skip) [1, 1, 1, 0, 1, 0, 0, 1, 0, 0, 1, 1, 0, 0, 1, 0, 0, 1, 1, 0, 0, 1, 1, 0, 0, 1, 0, 1]), (cd (Try.f9.body.getD .skip) [1, 1, 1, 0, 1, 0, 0, 1, 0, 0, 1, 1, 0, 0, 1, 0, 0, 1, 1, 0, 0, 1, 1, 0, 0, 1, 1, 0])] (s9_p6_den K M1 M2 M3) (fun i => (bif Nat.beq i 9 then (s9_p4_den K M1 M2 M3) else (bif Nat.beq i 8 then (s9_p3_den K M1 M2) else (bif Nat.beq i 7 then (s9_p3_den K M1 M2) else (bif Nat.beq i 6 then (s9_p2_den K M1) else (bif Nat.beq i 5 then (s9_p2_den K M1) else (bif Nat.beq i 4 then (s9_p1_den K) else (fun _ _ => False)))))))) (s9_R K)
theorem s9_p7_ok (K : Value → World → Prop) (B1 : List Value → World → Prop) (B2 : List Value → World → Prop) (B3 : List Value → World → Prop) (s : Nat → Value) (w : World) (h : s9_p7 K B1 B2 B3 (s 7) (s 8) (s 9) (s 76) (s 77) (s 78) w) : Tr (s9_p7_den K (fun s w => B1 [s 7, s 8] w) (fun s w => B2 [s 7, s 8, s 9] w) (fun s w => B3 [s 7, s 8, s 9, s 76, s 77, s 78] w) s w) :=
  tr_simple (P := Try.prog) (codes := [(cd (Try.f9.body.getD .skip) [1, 1, 1, 0, 1, 0, 0, 1, 0, 0, 1, 1, 0, 0, 1, 0, 0, 1, 1, 0, 0, 1, 1, 0, 0, 0]), (cd (Try.f9.body.getD .skip) [1, 1, 1, 0, 1, 0, 0, 1, 0, 0, 1, 1, 0, 0, 1, 0, 0, 1, 1, 0, 0, 1, 1, 0, 0, 1, 0, 0]), (cd (Try.f9.body.getD .skip) [1, 1, 1, 0, 1, 0, 0, 1, 0, 0, 1, 1, 0, 0, 1, 0, 0, 1, 1, 0, 0, 1, 1, 0, 0, 1, 0, 1]), (cd (Try.f9.body.getD .skip) [1, 1, 1, 0, 1, 0, 0, 1, 0, 0, 1, 1, 0, 0, 1, 0, 0, 1, 1, 0, 0, 1, 1, 0, 0, 1, 1, 0])]) (N := (fun s w => s9_p6 K B1 B2 B3 (s 7) (s 8) (s 9) (s 11) (s 76) (s 77) (s 78) (s 90) (s 91) (s 92) w)) (N' := (s9_p6_den K (fun s w => B1 [s 7, s 8] w) (fun s w => B2 [s 7, s 8, s 9] w) (fun s w => B3 [s 7, s 8, s 9, s 76, s 77, s 78] w))) (X := (fun i => (bif Nat.beq i 9 then (fun s w => s9_p4 K B1 B2 B3 (s 7) (s 8) (s 9) (s 76) (s 77) (s 78) w) else (bif Nat.beq i 8 then (fun s w => s9_p3 K B1 B2 (s 7) (s 8) (s 9) w) else (bif Nat.beq i 7 then (fun s w => s9_p3 K B1 B2 (s 7) (s 8) (s 9) w) else (bif Nat.beq i 6 then (fun s w => s9_p2 K B1 (s 7) (s 8) w) else (bif Nat.beq i 5 then (fun s w => s9_p2 K B1 (s 7) (s 8) w) else (bif Nat.beq i 4 then (fun s w => s9_p1 K w) else (fun _ _ => False))))))))) (X' := (fun i => (bif Nat.beq i 9 then (s9_p4_den K (fun s w => B1 [s 7, s 8] w) (fun s w => B2 [s 7, s 8, s 9] w) (fun s w => B3 [s 7, s 8, s 9, s 76, s 77, s 78] w)) else (bif Nat.beq i 8 then (s9_p3_den K (fun s w => B1 [s 7, s 8] w) (fun s w => B2 [s 7, s 8, s 9] w)) else (bif Nat.beq i 7 then (s9_p3_den K (fun s w => B1 [s 7, s 8] w) (fun s w => B2 [s 7, s 8, s 9] w)) else (bif Nat.beq i 6 then (s9_p2_den K (fun s w => B1 [s 7, s 8] w)) else (bif Nat.beq i 5 then (s9_p2_den K (fun s w => B1 [s 7, s 8] w)) else (bif Nat.beq i 4 then (s9_p1_den K) else (fun _ _ => False))))))))) (R := s9_R K) (s := s) (w := w) (p := s9_p7 K B1 B2 B3 (s 7) (s 8) (s 9) (s 76) (s 77) (s 78) w) (q := s9_p7_den K (fun s w => B1 [s 7, s 8] w) (fun s w => B2 [s 7, s 8, s 9] w) (fun s w => B3 [s 7, s 8, s 9, s 76, s 77, s 78] w) s w) (fun s w h => s9_p6_ok K B1 B2 B3 s w @h) (fun i => (tr_bif (fun s w h => s9_p4_ok K B1 B2 B3 s w @h) (tr_bif (fun s w h => s9_p3_ok K B1 B2 s w @h) (tr_bif (fun s w h => s9_p3_ok K B1 B2 s w @h) (tr_bif (fun s w h => s9_p2_ok K B1 s w @h) (tr_bif (fun s w h => s9_p2_ok K B1 s w @h) (tr_bif (fun s w h => s9_p1_ok K s w @h) tr_id))))))) (by kernel_rfl) (by kernel_rfl) @h
def s9_p8 (K : Value → World → Prop) (B1 : List Value → World → Prop) (B2 : List Value → World → Prop) (B3 : List Value → World → Prop) (t7 t8 t9 t76 t77 t78 : Value) (w : World) : Prop :=
  boI .lss t78 t77 (fun t79 w =>
  ifb t79
  (s9_p7 K B1 B2 B3 t7 t8 t9 t76 t77 t78 w)
  (s9_p3 K B1 B2 t7 t8 t9 w)) w
def s9_p8_den (K : Value → World → Prop) (M1 : (Nat → Value) → World → Prop) (M2 : (Nat → Value) → World → Prop) (M3 : (Nat → Value) → World → Prop) : (Nat → Value) → World → Prop := denL Try.prog [(cd (Try.f9.body.getD .skip) [1, 1, 1, 0, 1, 0, 0, 1, 0, 0, 1, 1, 0, 0, 1, 0, 0, 1, 1, 0, 0, 0]), (cd (Try.f9.body.getD .skip) [1, 1, 1, 0, 1, 0, 0, 1, 0, 0, 1, 1, 0, 0, 1, 0, 0, 1, 1, 0, 0, 1, 0])] (s9_p7_den K M1 M2 M3) (fun i => (bif Nat.beq i 8 then (s9_p3_den K M1 M2) else (bif Nat.beq i 7 then (s9_p3_den K M1 M2) else (bif Nat.beq i 6 then (s9_p2_den K M1) else (bif Nat.beq i 5 then (s9_p2_den K M1) else (bif Nat.beq i 4 then (s9_p1_den K) else (fun _ _ => False))))))) (s9_R K)
theorem s9_p8_ok (K : Value → World → Prop) (B1 : List Value → World → Prop) (B2 : List Value → World → Prop) (B3 : List Value → World → Prop) (s : Nat → Value) (w : World) (h : s9_p8 K B1 B2 B3 (s 7) (s 8) (s 9) (s 76) (s 77) (s 78) w) : Tr (s9_p8_den K (fun s w => B1 [s 7, s 8] w) (fun s w => B2 [s 7, s 8, s 9] w) (fun s w => B3 [s 7, s 8, s 9, s 76, s 77, s 78] w) s w) :=
  tr_simple (P := Try.prog) (codes := [(cd (Try.f9.body.getD .skip) [1, 1, 1, 0, 1, 0, 0, 1, 0, 0, 1, 1, 0, 0, 1, 0, 0, 1, 1, 0, 0, 0]), (cd (Try.f9.body.getD .skip) [1, 1, 1, 0, 1, 0, 0, 1, 0, 0, 1, 1, 0, 0, 1, 0, 0, 1, 1, 0, 0, 1, 0])]) (N := (fun s w => s9_p7 K B1 B2 B3 (s 7) (s 8) (s 9) (s 76) (s 77) (s 78) w)) (N' := (s9_p7_den K (fun s w => B1 [s 7, s 8] w) (fun s w => B2 [s 7, s 8, s 9] w) (fun s w => B3 [s 7, s 8, s 9, s 76, s 77, s 78] w))) (X := (fun i => (bif Nat.beq i 8 then (fun s w => s9_p3 K B1 B2 (s 7) (s 8) (s 9) w) else (bif Nat.beq i 7 then (fun s w => s9_p3 K B1 B2 (s 7) (s 8) (s 9) w) else (bif Nat.beq i 6 then (fun s w => s9_p2 K B1 (s 7) (s 8) w) else (bif Nat.beq i 5 then (fun s w => s9_p2 K B1 (s 7) (s 8) w) else (bif Nat.beq i 4 then (fun s w => s9_p1 K w) else (fun _ _ => False)))))))) (X' := (fun i => (bif Nat.beq i 8 then (s9_p3_den K (fun s w => B1 [s 7, s 8] w) (fun s w => B2 [s 7, s 8, s 9] w)) else (bif Nat.beq i 7 then (s9_p3_den K (fun s w => B1 [s 7, s 8] w) (fun s w => B2 [s 7, s 8, s 9] w)) else (bif Nat.beq i 6 then (s9_p2_den K (fun s w => B1 [s 7, s 8] w)) else (bif Nat.beq i 5 then (s9_p2_den K (fun s w => B1 [s 7, s 8] w)) else (bif Nat.beq i 4 then (s9_p1_den K) else (fun _ _ => False)))))))) (R := s9_R K) (s := s) (w := w) (p := s9_p8 K B1 B2 B3 (s 7) (s 8) (s 9) (s 76) (s 77) (s 78) w) (q := s9_p8_den K (fun s w => B1 [s 7, s 8] w) (fun s w => B2 [s 7, s 8, s 9] w) (fun s w => B3 [s 7, s 8, s 9, s 76, s 77, s 78] w) s w) (fun s w h => s9_p7_ok K B1 B2 B3 s w @h) (fun i => (tr_bif (fun s w h => s9_p3_ok K B1 B2 s w @h) (tr_bif (fun s w h => s9_p3_ok K B1 B2 s w @h) (tr_bif (fun s w h => s9_p2_ok K B1 s w @h) (tr_bif (fun s w h => s9_p2_ok K B1 s w @h) (tr_bif (fun s w h => s9_p1_ok K s w @h) tr_id)))))) (by kernel_rfl) (by kernel_rfl) @h
def s9_p9_F (K : Value → World → Prop) (B1 : List Value → World → Prop) (B2 : List Value → World → Prop) (B3 : List Value → World → Prop) (l : List Value) (w : World) : Prop :=
  match l with
  | [t7, t8, t9, t76, t77, t78] => s9_p8 K B1 B2 B3 t7 t8 t9 t76 t77 t78 w
  | _ => False
theorem s9_p9_Fe {K : Value → World → Prop} {B1 : List Value → World → Prop} {B2 : List Value → World → Prop} {B3 : List Value → World → Prop} {t7 t8 t9 t76 t77 t78 : Value} {w : World} : s9_p9_F K B1 B2 B3 [t7, t8, t9, t76, t77, t78] w = s9_p8 K B1 B2 B3 t7 t8 t9 t76 t77 t78 w := by kernel_rfl
def s9_p9 (K : Value → World → Prop) (B1 : List Value → World → Prop) (B2 : List Value → World → Prop) (t7 t8 t9 t76 t77 t78 : Value) (w : World) : Prop :=
  LoopL (s9_p9_F K B1 B2) [t7, t8, t9, t76, t77, t78] w
def s9_p9_den (K : Value → World → Prop) (M1 : (Nat → Value) → World → Prop) (M2 : (Nat → Value) → World → Prop) : (Nat → Value) → World → Prop := fun s w => LoopP (fun M3 s w => s9_p8_den K M1 M2 M3 s w) s w
theorem s9_p9_ok (K : Value → World → Prop) (B1 : List Value → World → Prop) (B2 : List Value → World → Prop) (s : Nat → Value) (w : World) (h : s9_p9 K B1 B2 (s 7) (s 8) (s 9) (s 76) (s 77) (s 78) w) : Tr (s9_p9_den K (fun s w => B1 [s 7, s 8] w) (fun s w => B2 [s 7, s 8, s 9] w) s w) :=
  tr_loop (G := fun N' s w => s9_p8_den K (fun s w => B1 [s 7, s 8] w) (fun s w => B2 [s 7, s 8, s 9] w) N' s w) (F := s9_p9_F K B1 B2) (sel := fun s => [s 7, s 8, s 9, s 76, s 77, s 78]) (s := s) (w := w) (p := s9_p9 K B1 B2 (s 7) (s 8) (s 9) (s 76) (s 77) (s 78) w) (q := s9_p9_den K (fun s w => B1 [s 7, s 8] w) (fun s w => B2 [s 7, s 8, s 9] w) s w) (fun B s w h => s9_p8_ok K B1 B2 B s w @h) (by kernel_rfl) (by kernel_rfl) @h
def s9_p10 (K : Value → World → Prop) (B1 : List Value → World → Prop) (B2 : List Value → World → Prop) (t7 t8 t9 : Value) (w : World) : Prop :=
  cvi .u8 t8 (fun t70 w =>
  cvi .u8 t9 (fun t72 w =>
  bsq 5 [(.int .u8 0)] 2 [(some (0, 1), t70), (some (1, 1), t72)] (fun t73 w =>
  cl Try.prog 21 #[t73] (fun t74 w =>
  un .not t74 (fun t75 w =>
  ifb t75
  (K (.bool false) w)
  (lnS t7 (fun t77 w =>
  s9_p9 K B1 B2 t7 t8 t9 t7 t77 (.int .i64 0) w) w)) w) w) w) w) w
def s9_p10_den (K : Value → World → Prop) (M1 : (Nat → Value) → World → Prop) (M2 : (Nat → Value) → World → Prop) : (Nat → Value) → World → Prop := denL Try.prog [(cd (Try.f9.body.getD .skip) [1, 1, 1, 0, 1, 0, 0, 1, 0, 0, 1, 1, 0, 0, 1, 0, 0, 0, 0]), (cd (Try.f9.body.getD .skip) [1, 1, 1, 0, 1, 0, 0, 1, 0, 0, 1, 1, 0, 0, 1, 0, 0, 0, 1]), (cd (Try.f9.body.getD .skip) [1, 1, 1, 0, 1, 0, 0, 1, 0, 0, 1, 1, 0, 0, 1, 0, 0, 1, 0])] (s9_p9_den K M1 M2) (fun i => (bif Nat.beq i 7 then (s9_p3_den K M1 M2) else (bif Nat.beq i 6 then (s9_p2_den K M1) else (bif Nat.beq i 5 then (s9_p2_den K M1) else (bif Nat.beq i 4 then (s9_p1_den K) else (fun _ _ => False)))))) (s9_R K)
theorem s9_p10_ok (K : Value → World → Prop) (B1 : List Value → World → Prop) (B2 : List Value → World → Prop) (s : Nat → Value) (w : World) (h : s9_p10 K B1 B2 (s 7) (s 8) (s 9) w) : Tr (s9_p10_den K (fun s w => B1 [s 7, s 8] w) (fun s w => B2 [s 7, s 8, s 9] w) s w) :=
  tr_simple (P := Try.prog) (codes := [(cd (Try.f9.body.getD .skip) [1, 1, 1, 0, 1, 0, 0, 1, 0, 0, 1, 1, 0, 0, 1, 0, 0, 0, 0]), (cd (Try.f9.body.getD .skip) [1, 1, 1, 0, 1, 0, 0, 1, 0, 0, 1, 1, 0, 0, 1, 0, 0, 0, 1]), (cd (Try.f9.body.getD .skip) [1, 1, 1, 0, 1, 0, 0, 1, 0, 0, 1, 1, 0, 0, 1, 0, 0, 1, 0])]) (N := (fun s w => s9_p9 K B1 B2 (s 7) (s 8) (s 9) (s 76) (s 77) (s 78) w)) (N' := (s9_p9_den K (fun s w => B1 [s 7, s 8] w) (fun s w => B2 [s 7, s 8, s 9] w))) (X := (fun i => (bif Nat.beq i 7 then (fun s w => s9_p3 K B1 B2 (s 7) (s 8) (s 9) w) else (bif Nat.beq i 6 then (fun s w => s9_p2 K B1 (s 7) (s 8) w) else (bif Nat.beq i 5 then (fun s w => s9_p2 K B1 (s 7) (s 8) w) else (bif Nat.beq i 4 then (fun s w => s9_p1 K w) else (fun _ _ => False))))))) (X' := (fun i => (bif Nat.beq i 7 then (s9_p3_den K (fun s w => B1 [s 7, s 8] w) (fun s w => B2 [s 7, s 8, s 9] w)) else (bif Nat.beq i 6 then (s9_p2_den K (fun s w => B1 [s 7, s 8] w)) else (bif Nat.beq i 5 then (s9_p2_den K (fun s w => B1 [s 7, s 8] w)) else (bif Nat.beq i 4 then (s9_p1_den K) else (fun _ _ => False))))))) (R := s9_R K) (s := s) (w := w) (p := s9_p10 K B1 B2 (s 7) (s 8) (s 9) w) (q := s9_p10_den K (fun s w => B1 [s 7, s 8] w) (fun s w => B2 [s 7, s 8, s 9] w) s w) (fun s w h => s9_p9_ok K B1 B2 s w @h) (fun i => (tr_bif (fun s w h => s9_p3_ok K B1 B2 s w @h) (tr_bif (fun s w h => s9_p2_ok K B1 s w @h) (tr_bif (fun s w h => s9_p2_ok K B1 s w @h) (tr_bif (fun s w h => s9_p1_ok K s w @h) tr_id))))) (by kernel_rfl) (by kernel_rfl) @h
def s9_p11 (K : Value → World → Prop) (B1 : List Value → World → Prop) (B2 : List Value → World → Prop) (t7 t8 t9 : Value) (w : World) : Prop :=
  boI .lss t9 (.int .i64 256) (fun t66 w =>
  ifb t66
  (s9_p10 K B1 B2 t7 t8 t9 w)
  (s9_p2 K B1 t7 t8 w)) w
def s9_p11_den (K : Value → World → Prop) (M1 : (Nat → Value) → World → Prop) (M2 : (Nat → Value) → World → Prop) : (Nat → Value) → World → Prop := denL Try.prog [(cd (Try.f9.body.getD .skip) [1, 1, 1, 0, 1, 0, 0, 1, 0, 0, 1, 1, 0, 0, 0, 0]), (cd (Try.f9.body.getD .skip) [1, 1, 1, 0, 1, 0, 0, 1, 0, 0, 1, 1, 0, 0, 0, 1])] (s9_p10_den K M1 M2) (fun i => (bif Nat.beq i 6 then (s9_p2_den K M1) else (bif Nat.beq i 5 then (s9_p2_den K M1) else (bif Nat.beq i 4 then (s9_p1_den K) else (fun _ _ => False))))) (s9_R K)
theorem s9_p11_ok (K : Value → World → Prop) (B1 : List Value → World → Prop) (B2 : List Value → World → Prop) (s : Nat → Value) (w : World) (h : s9_p11 K B1 B2 (s 7) (s 8) (s 9) w) : Tr (s9_p11_den K (fun s w => B1 [s 7, s 8] w) (fun s w => B2 [s 7, s 8, s 9] w) s w) :=
  tr_simple (P := Try.prog) (codes := [(cd (Try.f9.body.getD .skip) [1, 1, 1, 0, 1, 0, 0, 1, 0, 0, 1, 1, 0, 0, 0, 0]), (cd (Try.f9.body.getD .skip) [1, 1, 1, 0, 1, 0, 0, 1, 0, 0, 1, 1, 0, 0, 0, 1])]) (N := (fun s w => s9_p10 K B1 B2 (s 7) (s 8) (s 9) w)) (N' := (s9_p10_den K (fun s w => B1 [s 7, s 8] w) (fun s w => B2 [s 7, s 8, s 9] w))) (X := (fun i => (bif Nat.beq i 6 then (fun s w => s9_p2 K B1 (s 7) (s 8) w) else (bif Nat.beq i 5 then (fun s w => s9_p2 K B1 (s 7) (s 8) w) else (bif Nat.beq i 4 then (fun s w => s9_p1 K w) else (fun _ _ => False)))))) (X' := (fun i => (bif Nat.beq i 6 then (s9_p2_den K (fun s w => B1 [s 7, s 8] w)) else (bif Nat.beq i 5 then (s9_p2_den K (fun s w => B1 [s 7, s 8] w)) else (bif Nat.beq i 4 then (s9_p1_den K) else (fun _ _ => False)))))) (R := s9_R K) (s := s) (w := w) (p := s9_p11 K B1 B2 (s 7) (s 8) (s 9) w) (q := s9_p11_den K (fun s w => B1 [s 7, s 8] w) (fun s w => B2 [s 7, s 8, s 9] w) s w) (fun s w h => s9_p10_ok K B1 B2 s w @h) (fun i => (tr_bif (fun s w h => s9_p2_ok K B1 s w @h) (tr_bif (fun s w h => s9_p2_ok K B1 s w @h) (tr_bif (fun s w h => s9_p1_ok K s w @h) tr_id)))) (by kernel_rfl) (by kernel_rfl) @h
def s9_p12_F (K : Value → World → Prop) (B1 : List Value → World → Prop) (B2 : List Value → World → Prop) (l : List Value) (w : World) : Prop :=
  match l with
  | [t7, t8, t9] => s9_p11 K B1 B2 t7 t8 t9 w
  | _ => False
theorem s9_p12_Fe {K : Value → World → Prop} {B1 : List Value → World → Prop} {B2 : List Value → World → Prop} {t7 t8 t9 : Value} {w : World} : s9_p12_F K B1 B2 [t7, t8, t9] w = s9_p11 K B1 B2 t7 t8 t9 w := by kernel_rfl
def s9_p12 (K : Value → World → Prop) (B1 : List Value → World → Prop) (t7 t8 t9 : Value) (w : World) : Prop :=
  LoopL (s9_p12_F K B1) [t7, t8, t9] w
def s9_p12_den (K : Value → World → Prop) (M1 : (Nat → Value) → World → Prop) : (Nat → Value) → World → Prop := fun s w => LoopP (fun M2 s w => s9_p11_den K M1 M2 s w) s w
theorem s9_p12_ok (K : Value → World → Prop) (B1 : List Value → World → Prop) (s : Nat → Value) (w : World) (h : s9_p12 K B1 (s 7) (s 8) (s 9) w) : Tr (s9_p12_den K (fun s w => B1 [s 7, s 8] w) s w) :=
  tr_loop (G := fun N' s w => s9_p11_den K (fun s w => B1 [s 7, s 8] w) N' s w) (F := s9_p12_F K B1) (sel := fun s => [s 7, s 8, s 9]) (s := s) (w := w) (p := s9_p12 K B1 (s 7) (s 8) (s 9) w) (q := s9_p12_den K (fun s w => B1 [s 7, s 8] w) s w) (fun B s w h => s9_p11_ok K B1 B s w @h) (by kernel_rfl) (by kernel_rfl) @h
def s9_p13 (K : Value → World → Prop) (B1 : List Value → World → Prop) (t7 t8 : Value) (w : World) : Prop :=
  cvi .u8 t8 (fun t61 w =>
  bsq 5 [(.int .u8 0)] 1 [(some (0, 1), t61)] (fun t62 w =>
  cl Try.prog 21 #[t62] (fun t63 w =>
  un .not t63 (fun t64 w =>
  ifb t64
  (K (.bool false) w)
  (s9_p12 K B1 t7 t8 (.int .i64 0) w)) w) w) w) w
def s9_p13_den (K : Value → World → Prop) (M1 : (Nat → Value) → World → Prop) : (Nat → Value) → World → Prop := denL Try.prog [(cd (Try.f9.body.getD .skip) [1, 1, 1, 0, 1, 0, 0, 1, 0, 0, 0, 0]), (cd (Try.f9.body.getD .skip) [1, 1, 1, 0, 1, 0, 0, 1, 0, 0, 0, 1]), (cd (Try.f9.body.getD .skip) [1, 1, 1, 0, 1, 0, 0, 1, 0, 0, 1, 0])] (s9_p12_den K M1) (fun i => (bif Nat.beq i 5 then (s9_p2_den K M1) else (bif Nat.beq i 4 then (s9_p1_den K) else (fun _ _ => False)))) (s9_R K)
theorem s9_p13_ok (K : Value → World → Prop) (B1 : List Value → World → Prop) (s : Nat → Value) (w : World) (h : s9_p13 K B1 (s 7) (s 8) w) : Tr (s9_p13_den K (fun s w => B1 [s 7, s 8] w) s w) :=
  tr_simple (P := Try.prog) (codes := [(cd (Try.f9.body.getD .skip) [1, 1, 1, 0, 1, 0, 0, 1, 0, 0, 0, 0]), (cd (Try.f9.body.getD .skip) [1, 1, 1, 0, 1, 0, 0, 1, 0, 0, 0, 1]), (cd (Try.f9.body.getD .skip) [1, 1, 1, 0, 1, 0, 0, 1, 0, 0, 1, 0])]) (N := (fun s w => s9_p12 K B1 (s 7) (s 8) (s 9) w)) (N' := (s9_p12_den K (fun s w => B1 [s 7, s 8] w))) (X := (fun i => (bif Nat.beq i 5 then (fun s w => s9_p2 K B1 (s 7) (s 8) w) else (bif Nat.beq i 4 then (fun s w => s9_p1 K w) else (fun _ _ => False))))) (X' := (fun i => (bif Nat.beq i 5 then (s9_p2_den K (fun s w => B1 [s 7, s 8] w)) else (bif Nat.beq i 4 then (s9_p1_den K) else (fun _ _ => False))))) (R := s9_R K) (s := s) (w := w) (p := s9_p13 K B1 (s 7) (s 8) w) (q := s9_p13_den K (fun s w => B1 [s 7, s 8] w) s w) (fun s w h => s9_p12_ok K B1 s w @h) (fun i => (tr_bif (fun s w h => s9_p2_ok K B1 s w @h) (tr_bif (fun s w h => s9_p1_ok K s w @h) tr_id))) (by kernel_rfl) (by kernel_rfl) @h
def s9_p14 (K : Value → World → Prop) (B1 : List Value → World → Prop) (t7 t8 : Value) (w : World) : Prop :=
  boI .lss t8 (.int .i64 256) (fun t57 w =>
  ifb t57
  (s9_p13 K B1 t7 t8 w)
  (s9_p1 K w)) w
def s9_p14_den (K : Value → World → Prop) (M1 : (Nat → Value) → World → Prop) : (Nat → Value) → World → Prop := denL Try.prog [(cd (Try.f9.body.getD .skip) [1, 1, 1, 0, 1, 0, 0, 0, 0]), (cd (Try.f9.body.getD .skip) [1, 1, 1, 0, 1, 0, 0, 0, 1])] (s9_p13_den K M1) (fun i => (bif Nat.beq i 4 then (s9_p1_den K) else (fun _ _ => False))) (s9_R K)
theorem s9_p14_ok (K : Value → World → Prop) (B1 : List Value → World → Prop) (s : Nat → Value) (w : World) (h : s9_p14 K B1 (s 7) (s 8) w) : Tr (s9_p14_den K (fun s w => B1 [s 7, s 8] w) s w) :=
  tr_simple (P := Try.prog) (codes := [(cd (Try.f9.body.getD .skip) [1, 1, 1, 0, 1, 0, 0, 0, 0]), (cd (Try.f9.body.getD .skip) [1, 1, 1, 0, 1, 0, 0, 0, 1])]) (N := (fun s w => s9_p13 K B1 (s 7) (s 8) w)) (N' := (s9_p13_den K (fun s w => B1 [s 7, s 8] w))) (X := (fun i => (bif Nat.beq i 4 then (fun s w => s9_p1 K w) else (fun _ _ => False)))) (X' := (fun i => (bif Nat.beq i 4 then (s9_p1_den K) else (fun _ _ => False)))) (R := s9_R K) (s := s) (w := w) (p := s9_p14 K B1 (s 7) (s 8) w) (q := s9_p14_den K (fun s w => B1 [s 7, s 8] w) s w) (fun s w h => s9_p13_ok K B1 s w @h) (fun i => (tr_bif (fun s w h => s9_p1_ok K s w @h) tr_id)) (by kernel_rfl) (by kernel_rfl) @h
def s9_p15_F (K : Value → World → Prop) (B1 : List Value → World → Prop) (l : List Value) (w : World) : Prop :=
  match l with
  | [t7, t8] => s9_p14 K B1 t7 t8 w
  | _ => False
theorem s9_p15_Fe {K : Value → World → Prop} {B1 : List Value → World → Prop} {t7 t8 : Value} {w : World} : s9_p15_F K B1 [t7, t8] w = s9_p14 K B1 t7 t8 w := by kernel_rfl
def s9_p15 (K : Value → World → Prop) (t7 t8 : Value) (w : World) : Prop :=
  LoopL (s9_p15_F K) [t7, t8] w
def s9_p15_den (K : Value → World → Prop) : (Nat → Value) → World → Prop := fun s w => LoopP (fun M1 s w => s9_p14_den K M1 s w) s w
theorem s9_p15_ok (K : Value → World → Prop) (s : Nat → Value) (w : World) (h : s9_p15 K (s 7) (s 8) w) : Tr (s9_p15_den K s w) :=
  tr_loop (G := fun N' s w => s9_p14_den K N' s w) (F := s9_p15_F K) (sel := fun s => [s 7, s 8]) (s := s) (w := w) (p := s9_p15 K (s 7) (s 8) w) (q := s9_p15_den K s w) (fun B s w h => s9_p14_ok K B s w @h) (by kernel_rfl) (by kernel_rfl) @h
def s9_p16 (K : Value → World → Prop) (w : World) : Prop :=
  bsq 5 [(.int .u8 0)] 4 [(some (0, 1), (.int .u8 127)), (some (1, 1), (.int .u8 128)), (some (2, 1), (.int .u8 191)), (some (3, 1), (.int .u8 192))] (fun t55 w =>
  s9_p15 K t55 (.int .i64 0) w) w
def s9_p16_den (K : Value → World → Prop) : (Nat → Value) → World → Prop := denL Try.prog [(cd (Try.f9.body.getD .skip) [1, 1, 0]), (cd (Try.f9.body.getD .skip) [1, 1, 1, 0, 0])] (s9_p15_den K) (fun i => (fun _ _ => False)) (s9_R K)
theorem s9_p16_ok (K : Value → World → Prop) (s : Nat → Value) (w : World) (h : s9_p16 K w) : Tr (s9_p16_den K s w) :=
  tr_simple (P := Try.prog) (codes := [(cd (Try.f9.body.getD .skip) [1, 1, 0]), (cd (Try.f9.body.getD .skip) [1, 1, 1, 0, 0])]) (N := (fun s w => s9_p15 K (s 7) (s 8) w)) (N' := (s9_p15_den K)) (X := (fun i => (fun _ _ => False))) (X' := (fun i => (fun _ _ => False))) (R := s9_R K) (s := s) (w := w) (p := s9_p16 K w) (q := s9_p16_den K s w) (fun s w h => s9_p15_ok K s w @h) (fun i => tr_id) (by kernel_rfl) (by kernel_rfl) @h
def s9_p17 (K : Value → World → Prop) (B1 : List Value → World → Prop) (t1 : Value) (w : World) : Prop :=
  boI .add t1 (.int .i64 1) (fun t17 w =>
  B1 [t17] w) w
def s9_p17_den (K : Value → World → Prop) (M1 : (Nat → Value) → World → Prop) : (Nat → Value) → World → Prop := denL Try.prog [(cd (Try.f9.body.getD .skip) [1, 0, 1, 0, 0, 1, 1])] M1 (fun i => (bif Nat.beq i 0 then (s9_p16_den K) else (fun _ _ => False))) (s9_R K)
theorem s9_p17_ok (K : Value → World → Prop) (B1 : List Value → World → Prop) (s : Nat → Value) (w : World) (h : s9_p17 K B1 (s 1) w) : Tr (s9_p17_den K (fun s w => B1 [s 1] w) s w) :=
  tr_simple (P := Try.prog) (codes := [(cd (Try.f9.body.getD .skip) [1, 0, 1, 0, 0, 1, 1])]) (N := (fun s w => B1 [s 1] w)) (N' := (fun s w => B1 [s 1] w)) (X := (fun i => (bif Nat.beq i 0 then (fun s w => s9_p16 K w) else (fun _ _ => False)))) (X' := (fun i => (bif Nat.beq i 0 then (s9_p16_den K) else (fun _ _ => False)))) (R := s9_R K) (s := s) (w := w) (p := s9_p17 K B1 (s 1) w) (q := s9_p17_den K (fun s w => B1 [s 1] w) s w) tr_id (fun i => (tr_bif (fun s w h => s9_p16_ok K s w @h) tr_id)) (by kernel_rfl) (by kernel_rfl) @h
def s9_p18 (K : Value → World → Prop) (B1 : List Value → World → Prop) (t1 t2 t3 t4 : Value) (w : World) : Prop :=
  boF Try.prog true .neq t3 .nilIface (fun t48 w =>
  gd t48 false (fun K w => K t2 w) (fun t50 w =>
  gd t48 false (fun K w => K t4 w) (fun t51 w =>
  gd t48 false (cl Try.prog 18 #[t50, t51]) (fun t52 w =>
  gd t48 false (un .not t52) (fun t53 w =>
  pk t48 (.bool true) t53 (fun t54 w =>
  ifb t54
  (K (.bool false) w)
  (s9_p17 K B1 t1 w)) w) w) w) w) w) w
def s9_p18_den (K : Value → World → Prop) (M1 : (Nat → Value) → World → Prop) : (Nat → Value) → World → Prop := denL Try.prog [(cd (Try.f9.body.getD .skip) [1, 0, 1, 0, 0, 1, 0, 0, 1, 1, 1, 1, 0]), (cd (Try.f9.body.getD .skip) [1, 0, 1, 0, 0, 1, 0, 0, 1, 1, 1, 1, 1])] (s9_p17_den K M1) (fun i => (bif Nat.beq i 1 then (s9_p17_den K M1) else (bif Nat.beq i 0 then (s9_p16_den K) else (fun _ _ => False)))) (s9_R K)
theorem s9_p18_ok (K : Value → World → Prop) (B1 : List Value → World → Prop) (s : Nat → Value) (w : World) (h : s9_p18 K B1 (s 1) (s 2) (s 3) (s 4) w) : Tr (s9_p18_den K (fun s w => B1 [s 1] w) s w) :=
  tr_simple (P := Try.prog) (codes := [(cd (Try.f9.body.getD .skip) [1, 0, 1, 0, 0, 1, 0, 0, 1, 1, 1, 1, 0]), (cd (Try.f9.body.getD .skip) [1, 0, 1, 0, 0, 1, 0, 0, 1, 1, 1, 1, 1])]) (N := (fun s w => s9_p17 K B1 (s 1) w)) (N' := (s9_p17_den K (fun s w => B1 [s 1] w))) (X := (fun i => (bif Nat.beq i 1 then (fun s w => s9_p17 K B1 (s 1) w) else (bif Nat.beq i 0 then (fun s w => s9_p16 K w) else (fun _ _ => False))))) (X' := (fun i => (bif Nat.beq i 1 then (s9_p17_den K (fun s w => B1 [s 1] w)) else (bif Nat.beq i 0 then (s9_p16_den K) else (fun _ _ => False))))) (R := s9_R K) (s := s) (w := w) (p := s9_p18 K B1 (s 1) (s 2) (s 3) (s 4) w) (q := s9_p18_den K (fun s w => B1 [s 1] w) s w) (fun s w h => s9_p17_ok K B1 s w @h) (fun i => (tr_bif (fun s w h => s9_p17_ok K B1 s w @h) (tr_bif (fun s w h => s9_p16_ok K s w @h) tr_id))) (by kernel_rfl) (by kernel_rfl) @h
def s9_p19 (K : Value → World → Prop) (B1 : List Value → World → Prop) (B2 : List Value → World → Prop) (t1 t2 t3 t4 t31 t32 t33 : Value) (w : World) : Prop :=
  boI .lss t33 t32 (fun t34 w =>
  ifb t34
  (ixs 1 t31 t33 (fun t35 w =>
  ld1 t35 (fun t36 w =>
  boI .rem t36 (.int .i64 256) (fun t39 w =>
  cvi .u8 t39 (fun t40 w =>
  boI .quo t36 (.int .i64 256) (fun t42 w =>
  cvi .u8 t42 (fun t43 w =>
  bsq 5 [(.int .u8 0)] 2 [(some (0, 1), t40), (some (1, 1), t43)] (fun t44 w =>
  apq 5 [(.int .u8 0)] 1 t4 t44 (fun t45 w =>
  boI .add t33 (.int .i64 1) (fun t46 w =>
  B2 [t1, t2, t3, t45, t31, t32, t46] w) w) w) w) w) w) w) w) w) w)
  (s9_p18 K B1 t1 t2 t3 t4 w)) w
def s9_p19_den (K : Value → World → Prop) (M1 : (Nat → Value) → World → Prop) (M2 : (Nat → Value) → World → Prop) : (Nat → Value) → World → Prop := denL Try.prog [(cd (Try.f9.body.getD .skip) [1, 0, 1, 0, 0, 1, 0, 0, 1, 1, 1, 0, 1, 0, 0, 0]), (cd (Try.f9.body.getD .skip) [1, 0, 1, 0, 0, 1, 0, 0, 1, 1, 1, 0, 1, 0, 0, 1, 0]), (cd (Try.f9.body.getD .skip) [1, 0, 1, 0, 0, 1, 0, 0, 1, 1, 1, 0, 1, 0, 0, 1, 1, 0]), (cd (Try.f9.body.getD .skip) [1, 0, 1, 0, 0, 1, 0, 0, 1, 1, 1, 0, 1, 0, 0, 1, 1, 1])] M2 (fun i => (bif Nat.beq i 2 then (s9_p18_den K M1) else (bif Nat.beq i 1 then (s9_p17_den K M1) else (bif Nat.beq i 0 then (s9_p16_den K) else (fun _ _ => False))))) (s9_R K)
theorem s9_p19_ok (K : Value → World → Prop) (B1 : List Value → World → Prop) (B2 : List Value → World → Prop) (s : Nat → Value) (w : World) (h : s9_p19 K B1 B2 (s 1) (s 2) (s 3) (s 4) (s 31) (s 32) (s 33) w) : Tr (s9_p19_den K (fun s w => B1 [s 1] w) (fun s w => B2 [s 1, s 2, s 3, s 4, s 31, s 32, s 33] w) s w) :=
  tr_simple (P := Try.prog) (codes := [(cd (Try.f9.body.getD .skip) [1, 0, 1, 0, 0, 1, 0, 0, 1, 1, 1, 0, 1, 0, 0, 0]), (cd (Try.f9.body.getD .skip) [1, 0, 1, 0, 0, 1, 0, 0, 1, 1, 1, 0, 1, 0, 0, 1, 0]), (cd (Try.f9.body.getD .skip) [1, 0, 1, 0, 0, 1, 0, 0, 1, 1, 1, 0, 1, 0, 0, 1, 1, 0]), (cd (Try.f9.body.getD .skip) [1, 0, 1, 0, 0, 1, 0, 0, 1, 1, 1, 0, 1, 0, 0, 1, 1, 1])]) (N := (fun s w => B2 [s 1, s 2, s 3, s 4, s 31, s 32, s 33] w)) (N' := (fun s w => B2 [s 1, s 2, s 3, s 4, s 31, s 32, s 33] w)) (X := (fun i => (bif Nat.beq i 2 then (fun s w => s9_p18 K B1 (s 1) (s 2) (s 3) (s 4) w) else (bif Nat.beq i 1 then (fun s w => s9_p17 K B1 (s 1) w) else (bif Nat.beq i 0 then (fun s w => s9_p16 K w) else (fun _ _ => False)))))) (X' := (fun i => (bif Nat.beq i 2 then (s9_p18_den K (fun s w => B1 [s 1] w)) else (bif Nat.beq i 1 then (s9_p17_den K (fun s w => B1 [s 1] w)) else (bif Nat.beq i 0 then (s9_p16_den K) else (fun _ _ => False)))))) (R := s9_R K) (s := s) (w := w) (p := s9_p19 K B1 B2 (s 1) (s 2) (s 3) (s 4) (s 31) (s 32) (s 33) w) (q := s9_p19_den K (fun s w => B1 [s 1] w) (fun s w => B2 [s 1, s 2, s 3, s 4, s 31, s 32, s 33] w) s w) tr_id (fun i => (tr_bif (fun s w h => s9_p18_ok K B1 s w @h) (tr_bif (fun s w h => s9_p17_ok K B1 s w @h) (tr_bif (fun s w h => s9_p16_ok K s w @h) tr_id)))) (by kernel_rfl) (by kernel_rfl) @h
def s9_p20_F (K : Value → World → Prop) (B1 : List Value → World → Prop) (B2 : List Value → World → Prop) (l : List Value) (w : World) : Prop :=
  match l with
  | [t1, t2, t3, t4, t31, t32, t33] => s9_p19 K B1 B2 t1 t2 t3 t4 t31 t32 t33 w
  | _ => False
theorem s9_p20_Fe {K : Value → World → Prop} {B1 : List Value → World → Prop} {B2 : List Value → World → Prop} {t1 t2 t3 t4 t31 t32 t33 : Value} {w : World} : s9_p20_F K B1 B2 [t1, t2, t3, t4, t31, t32, t33] w = s9_p19 K B1 B2 t1 t2 t3 t4 t31 t32 t33 w := by kernel_rfl
def s9_p20 (K : Value → World → Prop) (B1 : List Value → World → Prop) (t1 t2 t3 t4 t31 t32 t33 : Value) (w : World) : Prop :=
  LoopL (s9_p20_F K B1) [t1, t2, t3, t4, t31, t32, t33] w
def s9_p20_den (K : Value → World → Prop) (M1 : (Nat → Value) → World → Prop) : (Nat → Value) → World → Prop := fun s w => LoopP (fun M2 s w => s9_p19_den K M1 M2 s w) s w
theorem s9_p20_ok (K : Value → World → Prop) (B1 : List Value → World → Prop) (s : Nat → Value) (w : World) (h : s9_p20 K B1 (s 1) (s 2) (s 3) (s 4) (s 31) (s 32) (s 33) w) : Tr (s9_p20_den K (fun s w => B1 [s 1] w) s w) :=
  tr_loop (G := fun N' s w => s9_p19_den K (fun s w => B1 [s 1] w) N' s w) (F := s9_p20_F K B1) (sel := fun s => [s 1, s 2, s 3, s 4, s 31, s 32, s 33]) (s := s) (w := w) (p := s9_p20 K B1 (s 1) (s 2) (s 3) (s 4) (s 31) (s 32) (s 33) w) (q := s9_p20_den K (fun s w => B1 [s 1] w) s w) (fun B s w h => s9_p19_ok K B1 B s w @h) (by kernel_rfl) (by kernel_rfl) @h
def s9_p21 (K : Value → World → Prop) (B1 : List Value → World → Prop) (t1 : Value) (w : World) : Prop :=
  cl Try.prog 29 #[t1] (fun t20 w =>
  cl Try.prog 28 #[t20] (fun t21 w =>
  exq t21 0 (fun t22 w =>
  exq t21 1 (fun t23 w =>
  cl Try.prog 30 #[t1] (fun t25 w =>
  un .not t25 (fun t26 w =>
  ifb t26
  (boF Try.prog true .eql t23 .nilIface (fun t28 w =>
  ifb t28
  (K (.bool false) w)
  (s9_p17 K B1 t1 w)) w)
  (bsq 5 [(.int .u8 0)] 0 [] (fun t29 w =>
  cl Try.prog 31 #[t1] (fun t31 w =>
  lnS t31 (fun t32 w =>
  s9_p20 K B1 t1 t22 t23 t29 t31 t32 (.int .i64 0) w) w) w) w)) w) w) w) w) w) w
def s9_p21_den (K : Value → World → Prop) (M1 : (Nat → Value) → World → Prop) : (Nat → Value) → World → Prop := denL Try.prog [(cd (Try.f9.body.getD .skip) [1, 0, 1, 0, 0, 1, 0, 0, 0]), (cd (Try.f9.body.getD .skip) [1, 0, 1, 0, 0, 1, 0, 0, 1, 0, 0]), (cd (Try.f9.body.getD .skip) [1, 0, 1, 0, 0, 1, 0, 0, 1, 0, 1]), (cd (Try.f9.body.getD .skip) [1, 0, 1, 0, 0, 1, 0, 0, 1, 1, 0]), (cd (Try.f9.body.getD .skip) [1, 0, 1, 0, 0, 1, 0, 0, 1, 1, 1, 0, 0])] (s9_p20_den K M1) (fun i => (bif Nat.beq i 1 then (s9_p17_den K M1) else (bif Nat.beq i 0 then (s9_p16_den K) else (fun _ _ => False)))) (s9_R K)
theorem s9_p21_ok (K : Value → World → Prop) (B1 : List Value → World → Prop) (s : Nat → Value) (w : World) (h : s9_p21 K B1 (s 1) w) : Tr (s9_p21_den K (fun s w => B1 [s 1] w) s w) :=
  tr_simple (P := Try.prog) (codes := [(cd (Try.f9.body.getD .skip) [1, 0, 1, 0, 0, 1, 0, 0, 0]), (cd (Try.f9.body.getD .skip) [1, 0, 1, 0, 0, 1, 0, 0, 1, 0, 0]), (cd (Try.f9.body.getD .skip) [1, 0, 1, 0, 0, 1, 0, 0, 1, 0, 1]), (cd (Try.f9.body.getD .skip) [1, 0, 1, 0, 0, 1, 0, 0, 1, 1, 0]), (cd (Try.f9.body.getD .skip) [1, 0, 1, 0, 0, 1, 0, 0, 1, 1, 1, 0, 0])]) (N := (fun s w => s9_p20 K B1 (s 1) (s 2) (s 3) (s 4) (s 31) (s 32) (s 33) w)) (N' := (s9_p20_den K (fun s w => B1 [s 1] w))) (X := (fun i => (bif Nat.beq i 1 then (fun s w => s9_p17 K B1 (s 1) w) else (bif Nat.beq i 0 then (fun s w => s9_p16 K w) else (fun _ _ => False))))) (X' := (fun i => (bif Nat.beq i 1 then (s9_p17_den K (fun s w => B1 [s 1] w)) else (bif Nat.beq i 0 then (s9_p16_den K) else (fun _ _ => False))))) (R := s9_R K) (s := s) (w := w) (p := s9_p21 K B1 (s 1) w) (q := s9_p21_den K (fun s w => B1 [s 1] w) s w) (fun s w h => s9_p20_ok K B1 s w @h) (fun i => (tr_bif (fun s w h => s9_p17_ok K B1 s w @h) (tr_bif (fun s w h => s9_p16_ok K s w @h) tr_id))) (by kernel_rfl) (by kernel_rfl) @h
def s9_p22 (K : Value → World → Prop) (B1 : List Value → World → Prop) (t1 : Value) (w : World) : Prop :=
  boI .leq t1 (.int .i64 2097151) (fun t15 w =>
  ifb t15
  (s9_p21 K B1 t1 w)
  (s9_p16 K w)) w
def s9_p22_den (K : Value → World → Prop) (M1 : (Nat → Value) → World → Prop) : (Nat → Value) → World → Prop := denL Try.prog [(cd (Try.f9.body.getD .skip) [1, 0, 1, 0, 0, 0, 0]), (cd (Try.f9.body.getD .skip) [1, 0, 1, 0, 0, 0, 1])] (s9_p21_den K M1) (fun i => (bif Nat.beq i 0 then (s9_p16_den K) else (fun _ _ => False))) (s9_R K)
theorem s9_p22_ok (K : Value → World → Prop) (B1 : List Value → World → Prop) (s : Nat → Value) (w : World) (h : s9_p22 K B1 (s 1) w) : Tr (s9_p22_den K (fun s w => B1 [s 1] w) s w) :=
  tr_simple (P := Try.prog) (codes := [(cd (Try.f9.body.getD .skip) [1, 0, 1, 0, 0, 0, 0]), (cd (Try.f9.body.getD .skip) [1, 0, 1, 0, 0, 0, 1])]) (N := (fun s w => s9_p21 K B1 (s 1) w)) (N' := (s9_p21_den K (fun s w => B1 [s 1] w))) (X := (fun i => (bif Nat.beq i 0 then (fun s w => s9_p16 K w) else (fun _ _ => False)))) (X' := (fun i => (bif Nat.beq i 0 then (s9_p16_den K) else (fun _ _ => False)))) (R := s9_R K) (s := s) (w := w) (p := s9_p22 K B1 (s 1) w) (q := s9_p22_den K (fun s w => B1 [s 1] w) s w) (fun s w h => s9_p21_ok K B1 s w @h) (fun i => (tr_bif (fun s w h => s9_p16_ok K s w @h) tr_id)) (by kernel_rfl) (by kernel_rfl) @h
def s9_p23_F (K : Value → World → Prop) (B1 : List Value → World → Prop) (l : List Value) (w : World) : Prop :=
  match l with
  | [t1] => s9_p22 K B1 t1 w
  | _ => False
theorem s9_p23_Fe {K : Value → World → Prop} {B1 : List Value → World → Prop} {t1 : Value} {w : World} : s9_p23_F K B1 [t1] w = s9_p22 K B1 t1 w := by kernel_rfl
def s9_p23 (K : Value → World → Prop) (t1 : Value) (w : World) : Prop :=
  LoopL (s9_p23_F K) [t1] w
def s9_p23_den (K : Value → World → Prop) : (Nat → Value) → World → Prop := fun s w => LoopP (fun M1 s w => s9_p22_den K M1 s w) s w
theorem s9_p23_ok (K : Value → World → Prop) (s : Nat → Value) (w : World) (h : s9_p23 K (s 1) w) : Tr (s9_p23_den K s w) :=
  tr_loop (G := fun N' s w => s9_p22_den K N' s w) (F := s9_p23_F K) (sel := fun s => [s 1]) (s := s) (w := w) (p := s9_p23 K (s 1) w) (q := s9_p23_den K s w) (fun B s w h => s9_p22_ok K B s w @h) (by kernel_rfl) (by kernel_rfl) @h
def s9_p24 (K : Value → World → Prop) (w : World) : Prop :=
  s9_p23 K (.int .i64 0) w
def s9_p24_den (K : Value → World → Prop) : (Nat → Value) → World → Prop := denL Try.prog [(cd (Try.f9.body.getD .skip) [0]), (cd (Try.f9.body.getD .skip) [1, 0, 0])] (s9_p23_den K) (fun i => (fun _ _ => False)) (s9_R K)
theorem s9_p24_ok (K : Value → World → Prop) (s : Nat → Value) (w : World) (h : s9_p24 K w) : Tr (s9_p24_den K s w) :=
  tr_simple (P := Try.prog) (codes := [(cd (Try.f9.body.getD .skip) [0]), (cd (Try.f9.body.getD .skip) [1, 0, 0])]) (N := (fun s w => s9_p23 K (s 1) w)) (N' := (s9_p23_den K)) (X := (fun i => (fun _ _ => False))) (X' := (fun i => (fun _ _ => False))) (R := s9_R K) (s := s) (w := w) (p := s9_p24 K w) (q := s9_p24_den K s w) (fun s w h => s9_p23_ok K s w @h) (fun i => tr_id) (by kernel_rfl) (by kernel_rfl) @h
/-- the call, from the text -/
theorem c9 {K : Value → World → Prop} {w : World} (h : s9_p24 K  w) : cl Try.prog 9 #[] K w :=
  calls_of_tr (c := (Try.f9.body.getD .skip)) (fn := Try.f9) (q := s9_p24_den K (st0 #[]) w) Try.func9 (by kernel_rfl) (by kernel_rfl) (Nat.le_of_ble_eq_true (by kernel_rfl)) (by kernel_rfl) (by kernel_rfl) (s9_p24_ok K (st0 #[]) w @h)

/-! ### function 18 : e2e.octetsm.Same -/
def s18_R (K : Value → World → Prop) (s : Nat → Value) (w : World) : Prop := retv Try.prog s Try.f18.results.toList (fun vs => K (pack vs) w) w
def s18_p1 (K : Value → World → Prop) (w : World) : Prop :=
  K (.bool true) w
def s18_p1_den (K : Value → World → Prop) : (Nat → Value) → World → Prop := denL Try.prog [(cd (Try.f18.body.getD .skip) [1, 1, 1, 0]), (cd (Try.f18.body.getD .skip) [1, 1, 1, 1])] (fun _ _ => False) (fun i => (fun _ _ => False)) (s18_R K)
theorem s18_p1_ok (K : Value → World → Prop) (s : Nat → Value) (w : World) (h : s18_p1 K w) : Tr (s18_p1_den K s w) :=
  tr_simple (P := Try.prog) (codes := [(cd (Try.f18.body.getD .skip) [1, 1, 1, 0]), (cd (Try.f18.body.getD .skip) [1, 1, 1, 1])]) (N := (fun _ _ => False)) (N' := (fun _ _ => False)) (X := (fun i => (fun _ _ => False))) (X' := (fun i => (fun _ _ => False))) (R := s18_R K) (s := s) (w := w) (p := s18_p1 K w) (q := s18_p1_den K s w) tr_id (fun i => tr_id) (by kernel_rfl) (by kernel_rfl) @h
def s18_p2 (K : Value → World → Prop) (B1 : List Value → World → Prop) (t0 t1 t12 t13 : Value) (w : World) : Prop :=
  boI .add t13 (.int .i64 1) (fun t25 w =>
  B1 [t0, t1, t12, t25] w) w
def s18_p2_den (K : Value → World → Prop) (M1 : (Nat → Value) → World → Prop) : (Nat → Value) → World → Prop := denL Try.prog [(cd (Try.f18.body.getD .skip) [1, 1, 0, 1, 0, 0, 1, 1, 1])] M1 (fun i => (bif Nat.beq i 0 then (s18_p1_den K) else (fun _ _ => False))) (s18_R K)
theorem s18_p2_ok (K : Value → World → Prop) (B1 : List Value → World → Prop) (s : Nat → Value) (w : World) (h : s18_p2 K B1 (s 0) (s 1) (s 12) (s 13) w) : Tr (s18_p2_den K (fun s w => B1 [s 0, s 1, s 12, s 13] w) s w) :=
  tr_simple (P := Try.prog) (codes := [(cd (Try.f18.body.getD .skip) [1, 1, 0, 1, 0, 0, 1, 1, 1])]) (N := (fun s w => B1 [s 0, s 1, s 12, s 13] w)) (N' := (fun s w => B1 [s 0, s 1, s 12, s 13] w)) (X := (fun i => (bif Nat.beq i 0 then (fun s w => s18_p1 K w) else (fun _ _ => False)))) (X' := (fun i => (bif Nat.beq i 0 then (s18_p1_den K) else (fun _ _ => False)))) (R := s18_R K) (s := s) (w := w) (p := s18_p2 K B1 (s 0) (s 1) (s 12) (s 13) w) (q := s18_p2_den K (fun s w => B1 [s 0, s 1, s 12, s 13] w) s w) tr_id (fun i => (tr_bif (fun s w h => s18_p1_ok K s w @h) tr_id)) (by kernel_rfl) (by kernel_rfl) @h
def s18_p3 (K : Value → World → Prop) (B1 : List Value → World → Prop) (t0 t1 t12 t13 t24 : Value) (w : World) : Prop :=
  ifb t24
  (K (.bool false) w)
  (s18_p2 K B1 t0 t1 t12 t13 w)
def s18_p3_den (K : Value → World → Prop) (M1 : (Nat → Value) → World → Prop) : (Nat → Value) → World → Prop := denL Try.prog [(cd (Try.f18.body.getD .skip) [1, 1, 0, 1, 0, 0, 1, 1, 0, 0, 1, 1])] (s18_p2_den K M1) (fun i => (bif Nat.beq i 1 then (s18_p2_den K M1) else (bif Nat.beq i 0 then (s18_p1_den K) else (fun _ _ => False)))) (s18_R K)
theorem s18_p3_ok (K : Value → World → Prop) (B1 : List Value → World → Prop) (s : Nat → Value) (w : World) (h : s18_p3 K B1 (s 0) (s 1) (s 12) (s 13) (s 24) w) : Tr (s18_p3_den K (fun s w => B1 [s 0, s 1, s 12, s 13] w) s w) :=
  tr_simple (P := Try.prog) (codes := [(cd (Try.f18.body.getD .skip) [1, 1, 0, 1, 0, 0, 1, 1, 0, 0, 1, 1])]) (N := (fun s w => s18_p2 K B1 (s 0) (s 1) (s 12) (s 13) w)) (N' := (s18_p2_den K (fun s w => B1 [s 0, s 1, s 12, s 13] w))) (X := (fun i => (bif Nat.beq i 1 then (fun s w => s18_p2 K B1 (s 0) (s 1) (s 12) (s 13) w) else (bif Nat.beq i 0 then (fun s w => s18_p1 K w) else (fun _ _ => False))))) (X' := (fun i => (bif Nat.beq i 1 then (s18_p2_den K (fun s w => B1 [s 0, s 1, s 12, s 13] w)) else (bif Nat.beq i 0 then (s18_p1_den K) else (fun _ _ => False))))) (R := s18_R K) (s := s) (w := w) (p := s18_p3 K B1 (s 0) (s 1) (s 12) (s 13) (s 24) w) (q := s18_p3_den K (fun s w => B1 [s 0, s 1, s 12, s 13] w) s w) (fun s w h => s18_p2_ok K B1 s w @h) (fun i => (tr_bif (fun s w h => s18_p2_ok K B1 s w @h) (tr_bif (fun s w h => s18_p1_ok K s w @h) tr_id))) (by kernel_rfl) (by kernel_rfl) @h
def s18_p4_d (K : Value → World → Prop) (B1 : List Value → World → Prop) (t0 t1 t5 t12 t13 : Value) (w0 w : World) : Prop :=
  ixs 1 t0 t5 (fun t18 _ =>
  ld1 t18 (fun t19 _ =>
  ixs 1 t1 t5 (fun t22 _ =>
  ld1 t22 (fun t23 _ =>
  boI .neq t19 t23 (fun t24 _ =>
  s18_p3 K B1 t0 t1 t12 t13 t24 w) w0) w0) w0) w0) w0
def s18_p4 (K : Value → World → Prop) (B1 : List Value → World → Prop) (t0 t1 t5 t12 t13 : Value) (w : World) : Prop := s18_p4_d K B1 t0 t1 t5 t12 t13 (drw w) (drw w)
def s18_p4_den (K : Value → World → Prop) (M1 : (Nat → Value) → World → Prop) : (Nat → Value) → World → Prop := denL Try.prog [(cd (Try.f18.body.getD .skip) [1, 1, 0, 1, 0, 0, 1, 1, 0, 0, 1, 0])] (s18_p3_den K M1) (fun i => (bif Nat.beq i 1 then (s18_p2_den K M1) else (bif Nat.beq i 0 then (s18_p1_den K) else (fun _ _ => False)))) (s18_R K)
theorem s18_p4_ok (K : Value → World → Prop) (B1 : List Value → World → Prop) (s : Nat → Value) (w : World) (h : s18_p4 K B1 (s 0) (s 1) (s 5) (s 12) (s 13) w) : Tr (s18_p4_den K (fun s w => B1 [s 0, s 1, s 12, s 13] w) s w) :=
  tr_draw (P := Try.prog) (ops := (ro (cd (Try.f18.body.getD .skip) [1, 1, 0, 1, 0, 0, 1, 1, 0, 0, 1, 0]))) (ms := [0, 0, 3, 7, 0, 0, 48, 112, 255]) (cs := [0, 1, 2, 3, 4, 5, 6, 7, 8]) (N := (fun s w => s18_p3 K B1 (s 0) (s 1) (s 12) (s 13) (s 24) w)) (N' := (s18_p3_den K (fun s w => B1 [s 0, s 1, s 12, s 13] w))) (s := s) (w := w) (p := s18_p4 K B1 (s 0) (s 1) (s 5) (s 12) (s 13) w) (q := s18_p4_den K (fun s w => B1 [s 0, s 1, s 12, s 13] w) s w) (by kernel_rfl) (by kernel_rfl) (fun s w h => s18_p3_ok K B1 s w @h) (by kernel_rfl) (by kernel_rfl) @h
def s18_p5 (K : Value → World → Prop) (B1 : List Value → World → Prop) (t0 t1 t12 t13 : Value) (w : World) : Prop :=
  s18_p4 K B1 t0 t1 t13 t12 t13 w
def s18_p5_den (K : Value → World → Prop) (M1 : (Nat → Value) → World → Prop) : (Nat → Value) → World → Prop := denL Try.prog [(cd (Try.f18.body.getD .skip) [1, 1, 0, 1, 0, 0, 1, 1, 0, 0, 0])] (s18_p4_den K M1) (fun i => (bif Nat.beq i 1 then (s18_p2_den K M1) else (bif Nat.beq i 0 then (s18_p1_den K) else (fun _ _ => False)))) (s18_R K)
theorem s18_p5_ok (K : Value → World → Prop) (B1 : List Value → World → Prop) (s : Nat → Value) (w : World) (h : s18_p5 K B1 (s 0) (s 1) (s 12) (s 13) w) : Tr (s18_p5_den K (fun s w => B1 [s 0, s 1, s 12, s 13] w) s w) :=
  tr_simple (P := Try.prog) (codes := [(cd (Try.f18.body.getD .skip) [1, 1, 0, 1, 0, 0, 1, 1, 0, 0, 0])]) (N := (fun s w => s18_p4 K B1 (s 0) (s 1) (s 5) (s 12) (s 13) w)) (N' := (s18_p4_den K (fun s w => B1 [s 0, s 1, s 12, s 13] w))) (X := (fun i => (bif Nat.beq i 1 then (fun s w => s18_p2 K B1 (s 0) (s 1) (s 12) (s 13) w) else (bif Nat.beq i 0 then (fun s w => s18_p1 K w) else (fun _ _ => False))))) (X' := (fun i => (bif Nat.beq i 1 then (s18_p2_den K (fun s w => B1 [s 0, s 1, s 12, s 13] w)) else (bif Nat.beq i 0 then (s18_p1_den K) else (fun _ _ => False))))) (R := s18_R K) (s := s) (w := w) (p := s18_p5 K B1 (s 0) (s 1) (s 12) (s 13) w) (q := s18_p5_den K (fun s w => B1 [s 0, s 1, s 12, s 13] w) s w) (fun s w h => s18_p4_ok K B1 s w @h) (fun i => (tr_bif (fun s w h => s18_p2_ok K B1 s w @h) (tr_bif (fun s w h => s18_p1_ok K s w @h) tr_id))) (by kernel_rfl) (by kernel_rfl) @h
def s18_p6 (K : Value → World → Prop) (B1 : List Value → World → Prop) (t0 t1 t12 t13 : Value) (w : World) : Prop :=
  boI .lss t13 t12 (fun t14 w =>
  ifb t14
  (s18_p5 K B1 t0 t1 t12 t13 w)
  (s18_p1 K w)) w
def s18_p6_den (K : Value → World → Prop) (M1 : (Nat → Value) → World → Prop) : (Nat → Value) → World → Prop := denL Try.prog [(cd (Try.f18.body.getD .skip) [1, 1, 0, 1, 0, 0, 0]), (cd (Try.f18.body.getD .skip) [1, 1, 0, 1, 0, 0, 1, 0])] (s18_p5_den K M1) (fun i => (bif Nat.beq i 0 then (s18_p1_den K) else (fun _ _ => False))) (s18_R K)
theorem s18_p6_ok (K : Value → World → Prop) (B1 : List Value → World → Prop) (s : Nat → Value) (w : World) (h : s18_p6 K B1 (s 0) (s 1) (s 12) (s 13) w) : Tr (s18_p6_den K (fun s w => B1 [s 0, s 1, s 12, s 13] w) s w) :=
  tr_simple (P := Try.prog) (codes := [(cd (Try.f18.body.getD .skip) [1, 1, 0, 1, 0, 0, 0]), (cd (Try.f18.body.getD .skip) [1, 1, 0, 1, 0, 0, 1, 0])]) (N := (fun s w => s18_p5 K B1 (s 0) (s 1) (s 12) (s 13) w)) (N' := (s18_p5_den K (fun s w => B1 [s 0, s 1, s 12, s 13] w))) (X := (fun i => (bif Nat.beq i 0 then (fun s w => s18_p1 K w) else (fun _ _ => False)))) (X' := (fun i => (bif Nat.beq i 0 then (s18_p1_den K) else (fun _ _ => False)))) (R := s18_R K) (s := s) (w := w) (p := s18_p6 K B1 (s 0) (s 1) (s 12) (s 13) w) (q := s18_p6_den K (fun s w => B1 [s 0, s 1, s 12, s 13] w) s w) (fun s w h => s18_p5_ok K B1 s w @h) (fun i => (tr_bif (fun s w h => s18_p1_ok K s w @h) tr_id)) (by kernel_rfl) (by kernel_rfl) @h
def s18_p7_F (K : Value → World → Prop) (B1 : List Value → World → Prop) (l : List Value) (w : World) : Prop :=
  match l with
  | [t0, t1, t12, t13] => s18_p6 K B1 t0 t1 t12 t13 w
  | _ => False
theorem s18_p7_Fe {K : Value → World → Prop} {B1 : List Value → World → Prop} {t0 t1 t12 t13 : Value} {w : World} : s18_p7_F K B1 [t0, t1, t12, t13] w = s18_p6 K B1 t0 t1 t12 t13 w := by kernel_rfl
def s18_p7 (K : Value → World → Prop) (t0 t1 t12 t13 : Value) (w : World) : Prop :=
  LoopL (s18_p7_F K) [t0, t1, t12, t13] w
def s18_p7_den (K : Value → World → Prop) : (Nat → Value) → World → Prop := fun s w => LoopP (fun M1 s w => s18_p6_den K M1 s w) s w
theorem s18_p7_ok (K : Value → World → Prop) (s : Nat → Value) (w : World) (h : s18_p7 K (s 0) (s 1) (s 12) (s 13) w) : Tr (s18_p7_den K s w) :=
  tr_loop (G := fun N' s w => s18_p6_den K N' s w) (F := s18_p7_F K) (sel := fun s => [s 0, s 1, s 12, s 13]) (s := s) (w := w) (p := s18_p7 K (s 0) (s 1) (s 12) (s 13) w) (q := s18_p7_den K s w) (fun B s w h => s18_p6_ok K B s w @h) (by kernel_rfl) (by kernel_rfl) @h
def s18_p8 (K : Value → World → Prop) (t0 t1 : Value) (w : World) : Prop :=
  lnS t0 (fun t7 w =>
  lnS t1 (fun t9 w =>
  boI .neq t7 t9 (fun t10 w =>
  ifb t10
  (K (.bool false) w)
  (lnS t0 (fun t12 w =>
  s18_p7 K t0 t1 t12 (.int .i64 0) w) w)) w) w) w
def s18_p8_den (K : Value → World → Prop) : (Nat → Value) → World → Prop := denL Try.prog [(cd (Try.f18.body.getD .skip) [0]), (cd (Try.f18.body.getD .skip) [1, 0, 0]), (cd (Try.f18.body.getD .skip) [1, 0, 1]), (cd (Try.f18.body.getD .skip) [1, 1, 0, 0])] (s18_p7_den K) (fun i => (fun _ _ => False)) (s18_R K)
theorem s18_p8_ok (K : Value → World → Prop) (s : Nat → Value) (w : World) (h : s18_p8 K (s 0) (s 1) w) : Tr (s18_p8_den K s w) :=
  tr_simple (P := Try.prog) (codes := [(cd (Try.f18.body.getD .skip) [0]), (cd (Try.f18.body.getD .skip) [1, 0, 0]), (cd (Try.f18.body.getD .skip) [1, 0, 1]), (cd (Try.f18.body.getD .skip) [1, 1, 0, 0])]) (N := (fun s w => s18_p7 K (s 0) (s 1) (s 12) (s 13) w)) (N' := (s18_p7_den K)) (X := (fun i => (fun _ _ => False))) (X' := (fun i => (fun _ _ => False))) (R := s18_R K) (s := s) (w := w) (p := s18_p8 K (s 0) (s 1) w) (q := s18_p8_den K s w) (fun s w h => s18_p7_ok K s w @h) (fun i => tr_id) (by kernel_rfl) (by kernel_rfl) @h
/-- the call, from the text -/
theorem c18 (t0 t1 : Value) {K : Value → World → Prop} {w : World} (h : s18_p8 K t0 t1 w) : cl Try.prog 18 #[t0, t1] K w :=
  calls_of_tr (c := (Try.f18.body.getD .skip)) (fn := Try.f18) (q := s18_p8_den K (st0 #[t0, t1]) w) Try.func18 (by kernel_rfl) (by kernel_rfl) (Nat.le_of_ble_eq_true (by kernel_rfl)) (by kernel_rfl) (by kernel_rfl) (s18_p8_ok K (st0 #[t0, t1]) w @h)

/-! ### function 21 : e2e.octetslaw.utf16Holds -/
def s21_R (K : Value → World → Prop) (s : Nat → Value) (w : World) : Prop := retv Try.prog s Try.f21.results.toList (fun vs => K (pack vs) w) w
def s21_p1 (K : Value → World → Prop) (t0 : Value) (w : World) : Prop :=
  cl Try.prog 58 #[t0] (fun t11 w =>
  exq t11 0 (fun t12 w =>
  exq t11 1 (fun t13 w =>
  cl Try.prog 28 #[t0] (fun t16 w =>
  exq t16 0 (fun t17 w =>
  exq t16 1 (fun t18 w =>
  cl Try.prog 64 #[t0] (fun t21 w =>
  exq t21 0 (fun t22 w =>
  exq t21 1 (fun t23 w =>
  un .not t13 (fun t25 w =>
  ifb t25
  (boF Try.prog false .eql t18 (.iface 86 (.string ⟨#[111, 99, 116, 101, 116, 115, 58, 32, 105, 108, 108, 45, 102, 111, 114, 109, 101, 100, 32, 85, 84, 70, 45, 56]⟩)) (fun t28 w =>
  gd t28 true (fun K w => K t23 w) (fun t30 w =>
  gd t28 true (fun K w => K (.iface 86 (.string ⟨#[111, 99, 116, 101, 116, 115, 58, 32, 105, 108, 108, 45, 102, 111, 114, 109, 101, 100, 32, 85, 84, 70, 45, 56]⟩)) w) (fun t31 w =>
  gd t28 true (boF Try.prog false .eql t30 t31) (fun t32 w =>
  pk t28 t32 (.bool false) (fun t33 w =>
  gd t33 true (fun K w => K t17 w) (fun t35 w =>
  gd t33 true (lnS t35) (fun t36 w =>
  gd t33 true (boI .eql t36 (.int .i64 0)) (fun t37 w =>
  pk t33 t37 (.bool false) (fun t38 w =>
  gd t38 true (fun K w => K t22 w) (fun t40 w =>
  gd t38 true (boI .eql t40 (.int .i64 0)) (fun t41 w =>
  pk t38 t41 (.bool false) (fun t42 w =>
  K t42 w) w) w) w) w) w) w) w) w) w) w) w) w)
  (boF Try.prog true .eql t18 .nilIface (fun t44 w =>
  gd t44 true (fun K w => K t23 w) (fun t46 w =>
  gd t44 true (boF Try.prog true .eql t46 .nilIface) (fun t47 w =>
  pk t44 t47 (.bool false) (fun t48 w =>
  gd t48 true (fun K w => K t22 w) (fun t50 w =>
  gd t48 true (fun K w => K t12 w) (fun t51 w =>
  gd t48 true (lnS t51) (fun t52 w =>
  gd t48 true (boI .eql t50 t52) (fun t53 w =>
  pk t48 t53 (.bool false) (fun t54 w =>
  gd t54 true (fun K w => K t17 w) (fun t56 w =>
  gd t54 true (fun K w => K t12 w) (fun t57 w =>
  gd t54 true (cl Try.prog 18 #[t56, t57]) (fun t58 w =>
  pk t54 t58 (.bool false) (fun t59 w =>
  K t59 w) w) w) w) w) w) w) w) w) w) w) w) w) w)) w) w) w) w) w) w) w) w) w) w
def s21_p1_den (K : Value → World → Prop) : (Nat → Value) → World → Prop := denL Try.prog [(cd (Try.f21.body.getD .skip) [0]), (cd (Try.f21.body.getD .skip) [1, 0]), (cd (Try.f21.body.getD .skip) [1, 1, 0]), (cd (Try.f21.body.getD .skip) [1, 1, 1, 0]), (cd (Try.f21.body.getD .skip) [1, 1, 1, 1, 0, 0]), (cd (Try.f21.body.getD .skip) [1, 1, 1, 1, 0, 1]), (cd (Try.f21.body.getD .skip) [1, 1, 1, 1, 1, 0]), (cd (Try.f21.body.getD .skip) [1, 1, 1, 1, 1, 1])] (fun _ _ => False) (fun i => (fun _ _ => False)) (s21_R K)
theorem s21_p1_ok (K : Value → World → Prop) (s : Nat → Value) (w : World) (h : s21_p1 K (s 0) w) : Tr (s21_p1_den K s w) :=
  tr_simple (P := Try.prog) (codes := [(cd (Try.f21.body.getD .skip) [0]), (cd (Try.f21.body.getD .skip) [1, 0]), (cd (Try.f21.body.getD .skip) [1, 1, 0]), (cd (Try.f21.body.getD .skip) [1, 1, 1, 0]), (cd (Try.f21.body.getD .skip) [1, 1, 1, 1, 0, 0]), (cd (Try.f21.body.getD .skip) [1, 1, 1, 1, 0, 1]), (cd (Try.f21.body.getD .skip) [1, 1, 1, 1, 1, 0]), (cd (Try.f21.body.getD .skip) [1, 1, 1, 1, 1, 1])]) (N := (fun _ _ => False)) (N' := (fun _ _ => False)) (X := (fun i => (fun _ _ => False))) (X' := (fun i => (fun _ _ => False))) (R := s21_R K) (s := s) (w := w) (p := s21_p1 K (s 0) w) (q := s21_p1_den K s w) tr_id (fun i => tr_id) (by kernel_rfl) (by kernel_rfl) @h
/-- the call, from the text -/
theorem c21 (t0 : Value) {K : Value → World → Prop} {w : World} (h : s21_p1 K t0 w) : cl Try.prog 21 #[t0] K w :=
  calls_of_tr (c := (Try.f21.body.getD .skip)) (fn := Try.f21) (q := s21_p1_den K (st0 #[t0]) w) Try.func21 (by kernel_rfl) (by kernel_rfl) (Nat.le_of_ble_eq_true (by kernel_rfl)) (by kernel_rfl) (by kernel_rfl) (s21_p1_ok K (st0 #[t0]) w @h)

/-! ### function 28 : e2e.octets.UTF16LE -/
def s28_R (K : Value → World → Prop) (s : Nat → Value) (w : World) : Prop := retv Try.prog s Try.f28.results.toList (fun vs => K (pack vs) w) w
def s28_p1 (K : Value → World → Prop) (t0 : Value) (w : World) : Prop :=
  cl Try.prog 44 #[(.slice none 0 0), t0] (fun t5 w =>
  exq t5 0 (fun t6 w =>
  exq t5 1 (fun t7 w =>
  K (.tuple #[t6, t7]) w) w) w) w
def s28_p1_den (K : Value → World → Prop) : (Nat → Value) → World → Prop := denL Try.prog [(cd (Try.f28.body.getD .skip) [0]), (cd (Try.f28.body.getD .skip) [1, 0]), (cd (Try.f28.body.getD .skip) [1, 1])] (fun _ _ => False) (fun i => (fun _ _ => False)) (s28_R K)
theorem s28_p1_ok (K : Value → World → Prop) (s : Nat → Value) (w : World) (h : s28_p1 K (s 0) w) : Tr (s28_p1_den K s w) :=
  tr_simple (P := Try.prog) (codes := [(cd (Try.f28.body.getD .skip) [0]), (cd (Try.f28.body.getD .skip) [1, 0]), (cd (Try.f28.body.getD .skip) [1, 1])]) (N := (fun _ _ => False)) (N' := (fun _ _ => False)) (X := (fun i => (fun _ _ => False))) (X' := (fun i => (fun _ _ => False))) (R := s28_R K) (s := s) (w := w) (p := s28_p1 K (s 0) w) (q := s28_p1_den K s w) tr_id (fun i => tr_id) (by kernel_rfl) (by kernel_rfl) @h
/-- the call, from the text -/
theorem c28 (t0 : Value) {K : Value → World → Prop} {w : World} (h : s28_p1 K t0 w) : cl Try.prog 28 #[t0] K w :=
  calls_of_tr (c := (Try.f28.body.getD .skip)) (fn := Try.f28) (q := s28_p1_den K (st0 #[t0]) w) Try.func28 (by kernel_rfl) (by kernel_rfl) (Nat.le_of_ble_eq_true (by kernel_rfl)) (by kernel_rfl) (by kernel_rfl) (s28_p1_ok K (st0 #[t0]) w @h)

/-! ### function 29 : e2e.octetsm.Spell8 -/
def s29_R (K : Value → World → Prop) (s : Nat → Value) (w : World) : Prop := retv Try.prog s Try.f29.results.toList (fun vs => K (pack vs) w) w
def s29_p1 (K : Value → World → Prop) (t0 : Value) (w : World) : Prop :=
  boI .lss t0 (.int .i64 128) (fun t5 w =>
  ifb t5
  (cvi .u8 t0 (fun t7 w =>
  bsq 5 [(.int .u8 0)] 1 [(some (0, 1), t7)] (fun t8 w =>
  K t8 w) w) w)
  (boI .lss t0 (.int .i64 2048) (fun t11 w =>
  ifb t11
  (boI .quo t0 (.int .i64 64) (fun t13 w =>
  boI .add (.int .i64 192) t13 (fun t14 w =>
  cvi .u8 t14 (fun t15 w =>
  boI .rem t0 (.int .i64 64) (fun t17 w =>
  boI .add (.int .i64 128) t17 (fun t18 w =>
  cvi .u8 t18 (fun t19 w =>
  bsq 5 [(.int .u8 0)] 2 [(some (0, 1), t15), (some (1, 1), t19)] (fun t20 w =>
  K t20 w) w) w) w) w) w) w) w)
  (boI .lss t0 (.int .i64 65536) (fun t23 w =>
  ifb t23
  (boI .quo t0 (.int .i64 4096) (fun t25 w =>
  boI .add (.int .i64 224) t25 (fun t26 w =>
  cvi .u8 t26 (fun t27 w =>
  boI .quo t0 (.int .i64 64) (fun t29 w =>
  boI .rem t29 (.int .i64 64) (fun t30 w =>
  boI .add (.int .i64 128) t30 (fun t31 w =>
  cvi .u8 t31 (fun t32 w =>
  boI .rem t0 (.int .i64 64) (fun t34 w =>
  boI .add (.int .i64 128) t34 (fun t35 w =>
  cvi .u8 t35 (fun t36 w =>
  bsq 5 [(.int .u8 0)] 3 [(some (0, 1), t27), (some (1, 1), t32), (some (2, 1), t36)] (fun t37 w =>
  K t37 w) w) w) w) w) w) w) w) w) w) w) w)
  (boI .quo t0 (.int .i64 262144) (fun t39 w =>
  boI .add (.int .i64 240) t39 (fun t40 w =>
  cvi .u8 t40 (fun t41 w =>
  boI .quo t0 (.int .i64 4096) (fun t43 w =>
  boI .rem t43 (.int .i64 64) (fun t44 w =>
  boI .add (.int .i64 128) t44 (fun t45 w =>
  cvi .u8 t45 (fun t46 w =>
  boI .quo t0 (.int .i64 64) (fun t48 w =>
  boI .rem t48 (.int .i64 64) (fun t49 w =>
  boI .add (.int .i64 128) t49 (fun t50 w =>
  cvi .u8 t50 (fun t51 w =>
  boI .rem t0 (.int .i64 64) (fun t53 w =>
  boI .add (.int .i64 128) t53 (fun t54 w =>
  cvi .u8 t54 (fun t55 w =>
  bsq 5 [(.int .u8 0)] 4 [(some (0, 1), t41), (some (1, 1), t46), (some (2, 1), t51), (some (3, 1), t55)] (fun t56 w =>
  K t56 w) w) w) w) w) w) w) w) w) w) w) w) w) w) w) w)) w)) w)) w
def s29_p1_den (K : Value → World → Prop) : (Nat → Value) → World → Prop := denL Try.prog [(cd (Try.f29.body.getD .skip) [0]), (cd (Try.f29.body.getD .skip) [1, 0]), (cd (Try.f29.body.getD .skip) [1, 1, 0]), (cd (Try.f29.body.getD .skip) [1, 1, 1])] (fun _ _ => False) (fun i => (fun _ _ => False)) (s29_R K)
theorem s29_p1_ok (K : Value → World → Prop) (s : Nat → Value) (w : World) (h : s29_p1 K (s 0) w) : Tr (s29_p1_den K s w) :=
  tr_simple (P := Try.prog) (codes := [(cd (Try.f29.body.getD .skip) [0]), (cd (Try.f29.body.getD .skip) [1, 0]), (cd (Try.f29.body.getD .skip) [1, 1, 0]), (cd (Try.f29.body.getD .skip) [1, 1, 1])]) (N := (fun _ _ => False)) (N' := (fun _ _ => False)) (X := (fun i => (fun _ _ => False))) (X' := (fun i => (fun _ _ => False))) (R := s29_R K) (s := s) (w := w) (p := s29_p1 K (s 0) w) (q := s29_p1_den K s w) tr_id (fun i => tr_id) (by kernel_rfl) (by kernel_rfl) @h
/-- the call, from the text -/
theorem c29 (t0 : Value) {K : Value → World → Prop} {w : World} (h : s29_p1 K t0 w) : cl Try.prog 29 #[t0] K w :=
  calls_of_tr (c := (Try.f29.body.getD .skip)) (fn := Try.f29) (q := s29_p1_den K (st0 #[t0]) w) Try.func29 (by kernel_rfl) (by kernel_rfl) (Nat.le_of_ble_eq_true (by kernel_rfl)) (by kernel_rfl) (by kernel_rfl) (s29_p1_ok K (st0 #[t0]) w @h)

/-! ### function 30 : e2e.octetsm.IsScalar -/
def s30_R (K : Value → World → Prop) (s : Nat → Value) (w : World) : Prop := retv Try.prog s Try.f30.results.toList (fun vs => K (pack vs) w) w
def s30_p1 (K : Value → World → Prop) (t0 : Value) (w : World) : Prop :=
  boI .lss t0 (.int .i64 0) (fun t4 w =>
  gd t4 false (fun K w => K t0 w) (fun t6 w =>
  gd t4 false (boI .gtr t6 (.int .i64 1114111)) (fun t7 w =>
  pk t4 (.bool true) t7 (fun t8 w =>
  ifb t8
  (K (.bool false) w)
  (boI .lss t0 (.int .i64 55296) (fun t10 w =>
  gd t10 false (fun K w => K t0 w) (fun t12 w =>
  gd t10 false (boI .gtr t12 (.int .i64 57343)) (fun t13 w =>
  pk t10 (.bool true) t13 (fun t14 w =>
  K t14 w) w) w) w) w)) w) w) w) w
def s30_p1_den (K : Value → World → Prop) : (Nat → Value) → World → Prop := denL Try.prog [(cd (Try.f30.body.getD .skip) [0]), (cd (Try.f30.body.getD .skip) [1, 0, 0]), (cd (Try.f30.body.getD .skip) [1, 0, 1]), (cd (Try.f30.body.getD .skip) [1, 1, 0]), (cd (Try.f30.body.getD .skip) [1, 1, 1])] (fun _ _ => False) (fun i => (fun _ _ => False)) (s30_R K)
theorem s30_p1_ok (K : Value → World → Prop) (s : Nat → Value) (w : World) (h : s30_p1 K (s 0) w) : Tr (s30_p1_den K s w) :=
  tr_simple (P := Try.prog) (codes := [(cd (Try.f30.body.getD .skip) [0]), (cd (Try.f30.body.getD .skip) [1, 0, 0]), (cd (Try.f30.body.getD .skip) [1, 0, 1]), (cd (Try.f30.body.getD .skip) [1, 1, 0]), (cd (Try.f30.body.getD .skip) [1, 1, 1])]) (N := (fun _ _ => False)) (N' := (fun _ _ => False)) (X := (fun i => (fun _ _ => False))) (X' := (fun i => (fun _ _ => False))) (R := s30_R K) (s := s) (w := w) (p := s30_p1 K (s 0) w) (q := s30_p1_den K s w) tr_id (fun i => tr_id) (by kernel_rfl) (by kernel_rfl) @h
/-- the call, from the text -/
theorem c30 (t0 : Value) {K : Value → World → Prop} {w : World} (h : s30_p1 K t0 w) : cl Try.prog 30 #[t0] K w :=
  calls_of_tr (c := (Try.f30.body.getD .skip)) (fn := Try.f30) (q := s30_p1_den K (st0 #[t0]) w) Try.func30 (by kernel_rfl) (by kernel_rfl) (Nat.le_of_ble_eq_true (by kernel_rfl)) (by kernel_rfl) (by kernel_rfl) (s30_p1_ok K (st0 #[t0]) w @h)

/-! ### function 31 : e2e.octetsm.Spell16 -/
def s31_R (K : Value → World → Prop) (s : Nat → Value) (w : World) : Prop := retv Try.prog s Try.f31.results.toList (fun vs => K (pack vs) w) w
def s31_p1 (K : Value → World → Prop) (t0 : Value) (w : World) : Prop :=
  boI .lss t0 (.int .i64 65536) (fun t5 w =>
  ifb t5
  (bsq 3 [(.int .i64 0)] 1 [(some (0, 1), t0)] (fun t7 w =>
  K t7 w) w)
  (boI .sub t0 (.int .i64 65536) (fun t9 w =>
  boI .quo t9 (.int .i64 1024) (fun t11 w =>
  boI .add (.int .i64 55296) t11 (fun t12 w =>
  boI .rem t9 (.int .i64 1024) (fun t14 w =>
  boI .add (.int .i64 56320) t14 (fun t15 w =>
  bsq 3 [(.int .i64 0)] 2 [(some (0, 1), t12), (some (1, 1), t15)] (fun t16 w =>
  K t16 w) w) w) w) w) w) w)) w
def s31_p1_den (K : Value → World → Prop) : (Nat → Value) → World → Prop := denL Try.prog [(cd (Try.f31.body.getD .skip) [0]), (cd (Try.f31.body.getD .skip) [1, 0, 0]), (cd (Try.f31.body.getD .skip) [1, 0, 1]), (cd (Try.f31.body.getD .skip) [1, 1, 0]), (cd (Try.f31.body.getD .skip) [1, 1, 1, 0]), (cd (Try.f31.body.getD .skip) [1, 1, 1, 1])] (fun _ _ => False) (fun i => (fun _ _ => False)) (s31_R K)
theorem s31_p1_ok (K : Value → World → Prop) (s : Nat → Value) (w : World) (h : s31_p1 K (s 0) w) : Tr (s31_p1_den K s w) :=
  tr_simple (P := Try.prog) (codes := [(cd (Try.f31.body.getD .skip) [0]), (cd (Try.f31.body.getD .skip) [1, 0, 0]), (cd (Try.f31.body.getD .skip) [1, 0, 1]), (cd (Try.f31.body.getD .skip) [1, 1, 0]), (cd (Try.f31.body.getD .skip) [1, 1, 1, 0]), (cd (Try.f31.body.getD .skip) [1, 1, 1, 1])]) (N := (fun _ _ => False)) (N' := (fun _ _ => False)) (X := (fun i => (fun _ _ => False))) (X' := (fun i => (fun _ _ => False))) (R := s31_R K) (s := s) (w := w) (p := s31_p1 K (s 0) w) (q := s31_p1_den K s w) tr_id (fun i => tr_id) (by kernel_rfl) (by kernel_rfl) @h
/-- the call, from the text -/
theorem c31 (t0 : Value) {K : Value → World → Prop} {w : World} (h : s31_p1 K t0 w) : cl Try.prog 31 #[t0] K w :=
  calls_of_tr (c := (Try.f31.body.getD .skip)) (fn := Try.f31) (q := s31_p1_den K (st0 #[t0]) w) Try.func31 (by kernel_rfl) (by kernel_rfl) (Nat.le_of_ble_eq_true (by kernel_rfl)) (by kernel_rfl) (by kernel_rfl) (s31_p1_ok K (st0 #[t0]) w @h)

/-! ### function 44 : e2e.octets.AppendUTF16LE -/
def s44_R (K : Value → World → Prop) (s : Nat → Value) (w : World) : Prop := retv Try.prog s Try.f44.results.toList (fun vs => K (pack vs) w) w
def s44_p1 (K : Value → World → Prop) (t0 : Value) (w : World) : Prop :=
  K (.tuple #[t0, .nilIface]) w
def s44_p1_den (K : Value → World → Prop) : (Nat → Value) → World → Prop := denL Try.prog [(cd (Try.f44.body.getD .skip) [1, 1, 1, 1, 1, 0]), (cd (Try.f44.body.getD .skip) [1, 1, 1, 1, 1, 1])] (fun _ _ => False) (fun i => (fun _ _ => False)) (s44_R K)
theorem s44_p1_ok (K : Value → World → Prop) (s : Nat → Value) (w : World) (h : s44_p1 K (s 0) w) : Tr (s44_p1_den K s w) :=
  tr_simple (P := Try.prog) (codes := [(cd (Try.f44.body.getD .skip) [1, 1, 1, 1, 1, 0]), (cd (Try.f44.body.getD .skip) [1, 1, 1, 1, 1, 1])]) (N := (fun _ _ => False)) (N' := (fun _ _ => False)) (X := (fun i => (fun _ _ => False))) (X' := (fun i => (fun _ _ => False))) (R := s44_R K) (s := s) (w := w) (p := s44_p1 K (s 0) w) (q := s44_p1_den K s w) tr_id (fun i => tr_id) (by kernel_rfl) (by kernel_rfl) @h
def s44_p2 (K : Value → World → Prop) (B1 : List Value → World → Prop) (t0 t1 : Value) (w : World) : Prop :=
  lnS t1 (fun t39 w =>
  boI .gtr t39 (.int .i64 0) (fun t40 w =>
  ifb t40
  (cl Try.prog 91 #[t1] (fun t43 w =>
  exq t43 0 (fun t44 w =>
  exq t43 1 (fun t45 w =>
  boI .geq t44 (.int .u32 65536) (fun t47 w =>
  ifb t47
  (boI .sub t44 (.int .u32 65536) (fun t49 w =>
  boI .shr t49 (.int .u64 10) (fun t52 w =>
  boI .add (.int .u32 55296) t52 (fun t53 w =>
  cvi .u16 t53 (fun t54 w =>
  cl Try.prog 82 #[t0, t54] (fun t55 w =>
  boI .and t49 (.int .u32 1023) (fun t58 w =>
  boI .add (.int .u32 56320) t58 (fun t59 w =>
  cvi .u16 t59 (fun t60 w =>
  cl Try.prog 82 #[t55, t60] (fun t61 w =>
  sls 1 t1 (some t45) none (fun t68 w =>
  B1 [t61, t68] w) w) w) w) w) w) w) w) w) w) w)
  (cvi .u16 t44 (fun t64 w =>
  cl Try.prog 82 #[t0, t64] (fun t65 w =>
  sls 1 t1 (some t45) none (fun t68_2 w =>
  B1 [t65, t68_2] w) w) w) w)) w) w) w) w)
  (s44_p1 K t0 w)) w) w
def s44_p2_den (K : Value → World → Prop) (M1 : (Nat → Value) → World → Prop) : (Nat → Value) → World → Prop := denL Try.prog [(cd (Try.f44.body.getD .skip) [1, 1, 1, 1, 0, 0, 0, 0, 0]), (cd (Try.f44.body.getD .skip) [1, 1, 1, 1, 0, 0, 0, 0, 1]), (cd (Try.f44.body.getD .skip) [1, 1, 1, 1, 0, 0, 0, 1])] M1 (fun i => (bif Nat.beq i 0 then (s44_p1_den K) else (fun _ _ => False))) (s44_R K)
theorem s44_p2_ok (K : Value → World → Prop) (B1 : List Value → World → Prop) (s : Nat → Value) (w : World) (h : s44_p2 K B1 (s 0) (s 1) w) : Tr (s44_p2_den K (fun s w => B1 [s 0, s 1] w) s w) :=
  tr_simple (P := Try.prog) (codes := [(cd (Try.f44.body.getD .skip) [1, 1, 1, 1, 0, 0, 0, 0, 0]), (cd (Try.f44.body.getD .skip) [1, 1, 1, 1, 0, 0, 0, 0, 1]), (cd (Try.f44.body.getD .skip) [1, 1, 1, 1, 0, 0, 0, 1])]) (N := (fun s w => B1 [s 0, s 1] w)) (N' := (fun s w => B1 [s 0, s 1] w)) (X := (fun i => (bif Nat.beq i 0 then (fun s w => s44_p1 K (s 0) w) else (fun _ _ => False)))) (X' := (fun i => (bif Nat.beq i 0 then (s44_p1_den K) else (fun _ _ => False)))) (R := s44_R K) (s := s) (w := w) (p := s44_p2 K B1 (s 0) (s 1) w) (q := s44_p2_den K (fun s w => B1 [s 0, s 1] w) s w) tr_id (fun i => (tr_bif (fun s w h => s44_p1_ok K s w @h) tr_id)) (by kernel_rfl) (by kernel_rfl) @h
def s44_p3_F (K : Value → World → Prop) (B1 : List Value → World → Prop) (l : List Value) (w : World) : Prop :=
  match l with
  | [t0, t1] => s44_p2 K B1 t0 t1 w
  | _ => False
theorem s44_p3_Fe {K : Value → World → Prop} {B1 : List Value → World → Prop} {t0 t1 : Value} {w : World} : s44_p3_F K B1 [t0, t1] w = s44_p2 K B1 t0 t1 w := by kernel_rfl
def s44_p3 (K : Value → World → Prop) (t0 t1 : Value) (w : World) : Prop :=
  LoopL (s44_p3_F K) [t0, t1] w
def s44_p3_den (K : Value → World → Prop) : (Nat → Value) → World → Prop := fun s w => LoopP (fun M1 s w => s44_p2_den K M1 s w) s w
theorem s44_p3_ok (K : Value → World → Prop) (s : Nat → Value) (w : World) (h : s44_p3 K (s 0) (s 1) w) : Tr (s44_p3_den K s w) :=
  tr_loop (G := fun N' s w => s44_p2_den K N' s w) (F := s44_p3_F K) (sel := fun s => [s 0, s 1]) (s := s) (w := w) (p := s44_p3 K (s 0) (s 1) w) (q := s44_p3_den K s w) (fun B s w h => s44_p2_ok K B s w @h) (by kernel_rfl) (by kernel_rfl) @h
def s44_p4 (K : Value → World → Prop) (t0 t1 : Value) (w : World) : Prop :=
  cl Try.prog 64 #[t1] (fun t13 w =>
  exq t13 0 (fun t14 w =>
  exq t13 1 (fun t15 w =>
  boF Try.prog true .neq t15 .nilIface (fun t17 w =>
  ifb t17
  (K (.tuple #[t0, t15]) w)
  (cpS t0 (fun t21 w =>
  lnS t0 (fun t23 w =>
  boI .sub t21 t23 (fun t24 w =>
  boI .lss t24 t14 (fun t26 w =>
  ifb t26
  (lnS t0 (fun t28 w =>
  lnS t0 (fun t30 w =>
  boI .add t30 t14 (fun t32 w =>
  mks 5 [(.int .u8 0)] 1 t28 t32 (fun t33 w =>
  cpq 1 t33 t0 (fun t36 w =>
  s44_p3 K t33 t1 w) w) w) w) w) w)
  (s44_p3 K t0 t1 w)) w) w) w) w)) w) w) w) w
def s44_p4_den (K : Value → World → Prop) : (Nat → Value) → World → Prop := denL Try.prog [(cd (Try.f44.body.getD .skip) [0]), (cd (Try.f44.body.getD .skip) [1, 0]), (cd (Try.f44.body.getD .skip) [1, 1, 0, 0]), (cd (Try.f44.body.getD .skip) [1, 1, 0, 1]), (cd (Try.f44.body.getD .skip) [1, 1, 1, 0, 0]), (cd (Try.f44.body.getD .skip) [1, 1, 1, 0, 1])] (s44_p3_den K) (fun i => (fun _ _ => False)) (s44_R K)
theorem s44_p4_ok (K : Value → World → Prop) (s : Nat → Value) (w : World) (h : s44_p4 K (s 0) (s 1) w) : Tr (s44_p4_den K s w) :=
  tr_simple (P := Try.prog) (codes := [(cd (Try.f44.body.getD .skip) [0]), (cd (Try.f44.body.getD .skip) [1, 0]), (cd (Try.f44.body.getD .skip) [1, 1, 0, 0]), (cd (Try.f44.body.getD .skip) [1, 1, 0, 1]), (cd (Try.f44.body.getD .skip) [1, 1, 1, 0, 0]), (cd (Try.f44.body.getD .skip) [1, 1, 1, 0, 1])]) (N := (fun s w => s44_p3 K (s 0) (s 1) w)) (N' := (s44_p3_den K)) (X := (fun i => (fun _ _ => False))) (X' := (fun i => (fun _ _ => False))) (R := s44_R K) (s := s) (w := w) (p := s44_p4 K (s 0) (s 1) w) (q := s44_p4_den K s w) (fun s w h => s44_p3_ok K s w @h) (fun i => tr_id) (by kernel_rfl) (by kernel_rfl) @h
/-- the call, from the text -/
theorem c44 (t0 t1 : Value) {K : Value → World → Prop} {w : World} (h : s44_p4 K t0 t1 w) : cl Try.prog 44 #[t0, t1] K w :=
  calls_of_tr (c := (Try.f44.body.getD .skip)) (fn := Try.f44) (q := s44_p4_den K (st0 #[t0, t1]) w) Try.func44 (by kernel_rfl) (by kernel_rfl) (Nat.le_of_ble_eq_true (by kernel_rfl)) (by kernel_rfl) (by kernel_rfl) (s44_p4_ok K (st0 #[t0, t1]) w @h)

/-! ### function 58 : e2e.octetsm.UTF16LE -/
def s58_R (K : Value → World → Prop) (s : Nat → Value) (w : World) : Prop := retv Try.prog s Try.f58.results.toList (fun vs => K (pack vs) w) w
def s58_p1 (K : Value → World → Prop) (t6 : Value) (w : World) : Prop :=
  K (.tuple #[t6, (.bool true)]) w
def s58_p1_den (K : Value → World → Prop) : (Nat → Value) → World → Prop := denL Try.prog [(cd (Try.f58.body.getD .skip) [1, 1, 1, 1, 1, 0]), (cd (Try.f58.body.getD .skip) [1, 1, 1, 1, 1, 1])] (fun _ _ => False) (fun i => (fun _ _ => False)) (s58_R K)
theorem s58_p1_ok (K : Value → World → Prop) (s : Nat → Value) (w : World) (h : s58_p1 K (s 6) w) : Tr (s58_p1_den K s w) :=
  tr_simple (P := Try.prog) (codes := [(cd (Try.f58.body.getD .skip) [1, 1, 1, 1, 1, 0]), (cd (Try.f58.body.getD .skip) [1, 1, 1, 1, 1, 1])]) (N := (fun _ _ => False)) (N' := (fun _ _ => False)) (X := (fun i => (fun _ _ => False))) (X' := (fun i => (fun _ _ => False))) (R := s58_R K) (s := s) (w := w) (p := s58_p1 K (s 6) w) (q := s58_p1_den K s w) tr_id (fun i => tr_id) (by kernel_rfl) (by kernel_rfl) @h
def s58_p2 (K : Value → World → Prop) (B1 : List Value → World → Prop) (t6 t19 t20 t21 : Value) (w : World) : Prop :=
  boI .add t21 (.int .i64 1) (fun t42 w =>
  B1 [t6, t19, t20, t42] w) w
def s58_p2_den (K : Value → World → Prop) (M1 : (Nat → Value) → World → Prop) : (Nat → Value) → World → Prop := denL Try.prog [(cd (Try.f58.body.getD .skip) [1, 1, 1, 1, 0, 1, 0, 0, 1, 1, 1])] M1 (fun i => (bif Nat.beq i 0 then (s58_p1_den K) else (fun _ _ => False))) (s58_R K)
theorem s58_p2_ok (K : Value → World → Prop) (B1 : List Value → World → Prop) (s : Nat → Value) (w : World) (h : s58_p2 K B1 (s 6) (s 19) (s 20) (s 21) w) : Tr (s58_p2_den K (fun s w => B1 [s 6, s 19, s 20, s 21] w) s w) :=
  tr_simple (P := Try.prog) (codes := [(cd (Try.f58.body.getD .skip) [1, 1, 1, 1, 0, 1, 0, 0, 1, 1, 1])]) (N := (fun s w => B1 [s 6, s 19, s 20, s 21] w)) (N' := (fun s w => B1 [s 6, s 19, s 20, s 21] w)) (X := (fun i => (bif Nat.beq i 0 then (fun s w => s58_p1 K (s 6) w) else (fun _ _ => False)))) (X' := (fun i => (bif Nat.beq i 0 then (s58_p1_den K) else (fun _ _ => False)))) (R := s58_R K) (s := s) (w := w) (p := s58_p2 K B1 (s 6) (s 19) (s 20) (s 21) w) (q := s58_p2_den K (fun s w => B1 [s 6, s 19, s 20, s 21] w) s w) tr_id (fun i => (tr_bif (fun s w h => s58_p1_ok K s w @h) tr_id)) (by kernel_rfl) (by kernel_rfl) @h
def s58_p3 (K : Value → World → Prop) (B1 : List Value → World → Prop) (B2 : List Value → World → Prop) (t6 t19 t20 t21 t26 t27 t28 : Value) (w : World) : Prop :=
  boI .lss t28 t27 (fun t29 w =>
  ifb t29
  (ixs 1 t26 t28 (fun t30 w =>
  ld1 t30 (fun t31 w =>
  boI .rem t31 (.int .i64 256) (fun t34 w =>
  cvi .u8 t34 (fun t35 w =>
  boI .quo t31 (.int .i64 256) (fun t37 w =>
  cvi .u8 t37 (fun t38 w =>
  bsq 5 [(.int .u8 0)] 2 [(some (0, 1), t35), (some (1, 1), t38)] (fun t39 w =>
  apq 5 [(.int .u8 0)] 1 t6 t39 (fun t40 w =>
  boI .add t28 (.int .i64 1) (fun t41 w =>
  B2 [t40, t19, t20, t21, t26, t27, t41] w) w) w) w) w) w) w) w) w) w)
  (s58_p2 K B1 t6 t19 t20 t21 w)) w
def s58_p3_den (K : Value → World → Prop) (M1 : (Nat → Value) → World → Prop) (M2 : (Nat → Value) → World → Prop) : (Nat → Value) → World → Prop := denL Try.prog [(cd (Try.f58.body.getD .skip) [1, 1, 1, 1, 0, 1, 0, 0, 1, 1, 0, 0, 1, 1, 0, 0, 0]), (cd (Try.f58.body.getD .skip) [1, 1, 1, 1, 0, 1, 0, 0, 1, 1, 0, 0, 1, 1, 0, 0, 1, 0]), (cd (Try.f58.body.getD .skip) [1, 1, 1, 1, 0, 1, 0, 0, 1, 1, 0, 0, 1, 1, 0, 0, 1, 1, 0]), (cd (Try.f58.body.getD .skip) [1, 1, 1, 1, 0, 1, 0, 0, 1, 1, 0, 0, 1, 1, 0, 0, 1, 1, 1])] M2 (fun i => (bif Nat.beq i 2 then (s58_p2_den K M1) else (bif Nat.beq i 1 then (s58_p2_den K M1) else (bif Nat.beq i 0 then (s58_p1_den K) else (fun _ _ => False))))) (s58_R K)
theorem s58_p3_ok (K : Value → World → Prop) (B1 : List Value → World → Prop) (B2 : List Value → World → Prop) (s : Nat → Value) (w : World) (h : s58_p3 K B1 B2 (s 6) (s 19) (s 20) (s 21) (s 26) (s 27) (s 28) w) : Tr (s58_p3_den K (fun s w => B1 [s 6, s 19, s 20, s 21] w) (fun s w => B2 [s 6, s 19, s 20, s 21, s 26, s 27, s 28] w) s w) :=
  tr_simple (P := Try.prog) (codes := [(cd (Try.f58.body.getD .skip) [1, 1, 1, 1, 0, 1, 0, 0, 1, 1, 0, 0, 1, 1, 0, 0, 0]), (cd (Try.f58.body.getD .skip) [1, 1, 1, 1, 0, 1, 0, 0, 1, 1, 0, 0, 1, 1, 0, 0, 1, 0]), (cd (Try.f58.body.getD .skip) [1, 1, 1, 1, 0, 1, 0, 0, 1, 1, 0, 0, 1, 1, 0, 0, 1, 1, 0]), (cd (Try.f58.body.getD .skip) [1, 1, 1, 1, 0, 1, 0, 0, 1, 1, 0, 0, 1, 1, 0, 0, 1, 1, 1])]) (N := (fun s w => B2 [s 6, s 19, s 20, s 21, s 26, s 27, s 28] w)) (N' := (fun s w => B2 [s 6, s 19, s 20, s 21, s 26, s 27, s 28] w)) (X := (fun i => (bif Nat.beq i 2 then (fun s w => s58_p2 K B1 (s 6) (s 19) (s 20) (s 21) w) else (bif Nat.beq i 1 then (fun s w => s58_p2 K B1 (s 6) (s 19) (s 20) (s 21) w) else (bif Nat.beq i 0 then (fun s w => s58_p1 K (s 6) w) else (fun _ _ => False)))))) (X' := (fun i => (bif Nat.beq i 2 then (s58_p2_den K (fun s w => B1 [s 6, s 19, s 20, s 21] w)) else (bif Nat.beq i 1 then (s58_p2_den K (fun s w => B1 [s 6, s 19, s 20, s 21] w)) else (bif Nat.beq i 0 then (s58_p1_den K) else (fun _ _ => False)))))) (R := s58_R K) (s := s) (w := w) (p := s58_p3 K B1 B2 (s 6) (s 19) (s 20) (s 21) (s 26) (s 27) (s 28) w) (q := s58_p3_den K (fun s w => B1 [s 6, s 19, s 20, s 21] w) (fun s w => B2 [s 6, s 19, s 20, s 21, s 26, s 27, s 28] w) s w) tr_id (fun i => (tr_bif (fun s w h => s58_p2_ok K B1 s w @h) (tr_bif (fun s w h => s58_p2_ok K B1 s w @h) (tr_bif (fun s w h => s58_p1_ok K s w @h) tr_id)))) (by kernel_rfl) (by kernel_rfl) @h
def s58_p4_F (K : Value → World → Prop) (B1 : List Value → World → Prop) (B2 : List Value → World → Prop) (l : List Value) (w : World) : Prop :=
  match l with
  | [t6, t19, t20, t21, t26, t27, t28] => s58_p3 K B1 B2 t6 t19 t20 t21 t26 t27 t28 w
  | _ => False
theorem s58_p4_Fe {K : Value → World → Prop} {B1 : List Value → World → Prop} {B2 : List Value → World → Prop} {t6 t19 t20 t21 t26 t27 t28 : Value} {w : World} : s58_p4_F K B1 B2 [t6, t19, t20, t21, t26, t27, t28] w = s58_p3 K B1 B2 t6 t19 t20 t21 t26 t27 t28 w := by kernel_rfl
def s58_p4 (K : Value → World → Prop) (B1 : List Value → World → Prop) (t6 t19 t20 t21 t26 t27 t28 : Value) (w : World) : Prop :=
  LoopL (s58_p4_F K B1) [t6, t19, t20, t21, t26, t27, t28] w
def s58_p4_den (K : Value → World → Prop) (M1 : (Nat → Value) → World → Prop) : (Nat → Value) → World → Prop := fun s w => LoopP (fun M2 s w => s58_p3_den K M1 M2 s w) s w
theorem s58_p4_ok (K : Value → World → Prop) (B1 : List Value → World → Prop) (s : Nat → Value) (w : World) (h : s58_p4 K B1 (s 6) (s 19) (s 20) (s 21) (s 26) (s 27) (s 28) w) : Tr (s58_p4_den K (fun s w => B1 [s 6, s 19, s 20, s 21] w) s w) :=
  tr_loop (G := fun N' s w => s58_p3_den K (fun s w => B1 [s 6, s 19, s 20, s 21] w) N' s w) (F := s58_p4_F K B1) (sel := fun s => [s 6, s 19, s 20, s 21, s 26, s 27, s 28]) (s := s) (w := w) (p := s58_p4 K B1 (s 6) (s 19) (s 20) (s 21) (s 26) (s 27) (s 28) w) (q := s58_p4_den K (fun s w => B1 [s 6, s 19, s 20, s 21] w) s w) (fun B s w h => s58_p3_ok K B1 B s w @h) (by kernel_rfl) (by kernel_rfl) @h
def s58_p5 (K : Value → World → Prop) (B1 : List Value → World → Prop) (t6 t19 t20 t21 : Value) (w : World) : Prop :=
  ixs 1 t19 t21 (fun t23 w =>
  ld1 t23 (fun t24 w =>
  cl Try.prog 31 #[t24] (fun t26 w =>
  lnS t26 (fun t27 w =>
  s58_p4 K B1 t6 t19 t20 t21 t26 t27 (.int .i64 0) w) w) w) w) w
def s58_p5_den (K : Value → World → Prop) (M1 : (Nat → Value) → World → Prop) : (Nat → Value) → World → Prop := denL Try.prog [(cd (Try.f58.body.getD .skip) [1, 1, 1, 1, 0, 1, 0, 0, 1, 1, 0, 0, 0]), (cd (Try.f58.body.getD .skip) [1, 1, 1, 1, 0, 1, 0, 0, 1, 1, 0, 0, 1, 0])] (s58_p4_den K M1) (fun i => (bif Nat.beq i 1 then (s58_p2_den K M1) else (bif Nat.beq i 0 then (s58_p1_den K) else (fun _ _ => False)))) (s58_R K)
theorem s58_p5_ok (K : Value → World → Prop) (B1 : List Value → World → Prop) (s : Nat → Value) (w : World) (h : s58_p5 K B1 (s 6) (s 19) (s 20) (s 21) w) : Tr (s58_p5_den K (fun s w => B1 [s 6, s 19, s 20, s 21] w) s w) :=
  tr_simple (P := Try.prog) (codes := [(cd (Try.f58.body.getD .skip) [1, 1, 1, 1, 0, 1, 0, 0, 1, 1, 0, 0, 0]), (cd (Try.f58.body.getD .skip) [1, 1, 1, 1, 0, 1, 0, 0, 1, 1, 0, 0, 1, 0])]) (N := (fun s w => s58_p4 K B1 (s 6) (s 19) (s 20) (s 21) (s 26) (s 27) (s 28) w)) (N' := (s58_p4_den K (fun s w => B1 [s 6, s 19, s 20, s 21] w))) (X := (fun i => (bif Nat.beq i 1 then (fun s w => s58_p2 K B1 (s 6) (s 19) (s 20) (s 21) w) else (bif Nat.beq i 0 then (fun s w => s58_p1 K (s 6) w) else (fun _ _ => False))))) (X' := (fun i => (bif Nat.beq i 1 then (s58_p2_den K (fun s w => B1 [s 6, s 19, s 20, s 21] w)) else (bif Nat.beq i 0 then (s58_p1_den K) else (fun _ _ => False))))) (R := s58_R K) (s := s) (w := w) (p := s58_p5 K B1 (s 6) (s 19) (s 20) (s 21) w) (q := s58_p5_den K (fun s w => B1 [s 6, s 19, s 20, s 21] w) s w) (fun s w h => s58_p4_ok K B1 s w @h) (fun i => (tr_bif (fun s w h => s58_p2_ok K B1 s w @h) (tr_bif (fun s w h => s58_p1_ok K s w @h) tr_id))) (by kernel_rfl) (by kernel_rfl) @h
def s58_p6 (K : Value → World → Prop) (B1 : List Value → World → Prop) (t6 t19 t20 t21 : Value) (w : World) : Prop :=
  boI .lss t21 t20 (fun t22 w =>
  ifb t22
  (s58_p5 K B1 t6 t19 t20 t21 w)
  (s58_p1 K t6 w)) w
def s58_p6_den (K : Value → World → Prop) (M1 : (Nat → Value) → World → Prop) : (Nat → Value) → World → Prop := denL Try.prog [(cd (Try.f58.body.getD .skip) [1, 1, 1, 1, 0, 1, 0, 0, 0]), (cd (Try.f58.body.getD .skip) [1, 1, 1, 1, 0, 1, 0, 0, 1, 0])] (s58_p5_den K M1) (fun i => (bif Nat.beq i 0 then (s58_p1_den K) else (fun _ _ => False))) (s58_R K)
theorem s58_p6_ok (K : Value → World → Prop) (B1 : List Value → World → Prop) (s : Nat → Value) (w : World) (h : s58_p6 K B1 (s 6) (s 19) (s 20) (s 21) w) : Tr (s58_p6_den K (fun s w => B1 [s 6, s 19, s 20, s 21] w) s w) :=
  tr_simple (P := Try.prog) (codes := [(cd (Try.f58.body.getD .skip) [1, 1, 1, 1, 0, 1, 0, 0, 0]), (cd (Try.f58.body.getD .skip) [1, 1, 1, 1, 0, 1, 0, 0, 1, 0])]) (N := (fun s w => s58_p5 K B1 (s 6) (s 19) (s 20) (s 21) w)) (N' := (s58_p5_den K (fun s w => B1 [s 6, s 19, s 20, s 21] w))) (X := (fun i => (bif Nat.beq i 0 then (fun s w => s58_p1 K (s 6) w) else (fun _ _ => False)))) (X' := (fun i => (bif Nat.beq i 0 then (s58_p1_den K) else (fun _ _ => False)))) (R := s58_R K) (s := s) (w := w) (p := s58_p6 K B1 (s 6) (s 19) (s 20) (s 21) w) (q := s58_p6_den K (fun s w => B1 [s 6, s 19, s 20, s 21] w) s w) (fun s w h => s58_p5_ok K B1 s w @h) (fun i => (tr_bif (fun s w h => s58_p1_ok K s w @h) tr_id)) (by kernel_rfl) (by kernel_rfl) @h
def s58_p7_F (K : Value → World → Prop) (B1 : List Value → World → Prop) (l : List Value) (w : World) : Prop :=
  match l with
  | [t6, t19, t20, t21] => s58_p6 K B1 t6 t19 t20 t21 w
  | _ => False
theorem s58_p7_Fe {K : Value → World → Prop} {B1 : List Value → World → Prop} {t6 t19 t20 t21 : Value} {w : World} : s58_p7_F K B1 [t6, t19, t20, t21] w = s58_p6 K B1 t6 t19 t20 t21 w := by kernel_rfl
def s58_p7 (K : Value → World → Prop) (t6 t19 t20 t21 : Value) (w : World) : Prop :=
  LoopL (s58_p7_F K) [t6, t19, t20, t21] w
def s58_p7_den (K : Value → World → Prop) : (Nat → Value) → World → Prop := fun s w => LoopP (fun M1 s w => s58_p6_den K M1 s w) s w
theorem s58_p7_ok (K : Value → World → Prop) (s : Nat → Value) (w : World) (h : s58_p7 K (s 6) (s 19) (s 20) (s 21) w) : Tr (s58_p7_den K s w) :=
  tr_loop (G := fun N' s w => s58_p6_den K N' s w) (F := s58_p7_F K) (sel := fun s => [s 6, s 19, s 20, s 21]) (s := s) (w := w) (p := s58_p7 K (s 6) (s 19) (s 20) (s 21) w) (q := s58_p7_den K s w) (fun B s w h => s58_p6_ok K B s w @h) (by kernel_rfl) (by kernel_rfl) @h
def s58_p8 (K : Value → World → Prop) (t0 : Value) (w : World) : Prop :=
  cl Try.prog 104 #[t0] (fun t13 w =>
  exq t13 0 (fun t14 w =>
  exq t13 1 (fun t15 w =>
  un .not t15 (fun t17 w =>
  ifb t17
  (K (.tuple #[(.slice none 0 0), (.bool false)]) w)
  (bsq 5 [(.int .u8 0)] 0 [] (fun t18 w =>
  lnS t14 (fun t20 w =>
  s58_p7 K t18 t14 t20 (.int .i64 0) w) w) w)) w) w) w) w
def s58_p8_den (K : Value → World → Prop) : (Nat → Value) → World → Prop := denL Try.prog [(cd (Try.f58.body.getD .skip) [0]), (cd (Try.f58.body.getD .skip) [1, 0]), (cd (Try.f58.body.getD .skip) [1, 1, 0, 0]), (cd (Try.f58.body.getD .skip) [1, 1, 0, 1]), (cd (Try.f58.body.getD .skip) [1, 1, 1, 0]), (cd (Try.f58.body.getD .skip) [1, 1, 1, 1, 0, 0])] (s58_p7_den K) (fun i => (fun _ _ => False)) (s58_R K)
theorem s58_p8_ok (K : Value → World → Prop) (s : Nat → Value) (w : World) (h : s58_p8 K (s 0) w) : Tr (s58_p8_den K s w) :=
  tr_simple (P := Try.prog) (codes := [(cd (Try.f58.body.getD .skip) [0]), (cd (Try.f58.body.getD .skip) [1, 0]), (cd (Try.f58.body.getD .skip) [1, 1, 0, 0]), (cd (Try.f58.body.getD .skip) [1, 1, 0, 1]), (cd (Try.f58.body.getD .skip) [1, 1, 1, 0]), (cd (Try.f58.body.getD .skip) [1, 1, 1, 1, 0, 0])]) (N := (fun s w => s58_p7 K (s 6) (s 19) (s 20) (s 21) w)) (N' := (s58_p7_den K)) (X := (fun i => (fun _ _ => False))) (X' := (fun i => (fun _ _ => False))) (R := s58_R K) (s := s) (w := w) (p := s58_p8 K (s 0) w) (q := s58_p8_den K s w) (fun s w h => s58_p7_ok K s w @h) (fun i => tr_id) (by kernel_rfl) (by kernel_rfl) @h
/-- the call, from the text -/
theorem c58 (t0 : Value) {K : Value → World → Prop} {w : World} (h : s58_p8 K t0 w) : cl Try.prog 58 #[t0] K w :=
  calls_of_tr (c := (Try.f58.body.getD .skip)) (fn := Try.f58) (q := s58_p8_den K (st0 #[t0]) w) Try.func58 (by kernel_rfl) (by kernel_rfl) (Nat.le_of_ble_eq_true (by kernel_rfl)) (by kernel_rfl) (by kernel_rfl) (s58_p8_ok K (st0 #[t0]) w @h)

/-! ### function 64 : e2e.octets.UTF16Len -/
def s64_R (K : Value → World → Prop) (s : Nat → Value) (w : World) : Prop := retv Try.prog s Try.f64.results.toList (fun vs => K (pack vs) w) w
def s64_p1 (K : Value → World → Prop) (t4 : Value) (w : World) : Prop :=
  K (.tuple #[t4, .nilIface]) w
def s64_p1_den (K : Value → World → Prop) : (Nat → Value) → World → Prop := denL Try.prog [(cd (Try.f64.body.getD .skip) [1, 1, 1, 0]), (cd (Try.f64.body.getD .skip) [1, 1, 1, 1])] (fun _ _ => False) (fun i => (fun _ _ => False)) (s64_R K)
theorem s64_p1_ok (K : Value → World → Prop) (s : Nat → Value) (w : World) (h : s64_p1 K (s 4) w) : Tr (s64_p1_den K s w) :=
  tr_simple (P := Try.prog) (codes := [(cd (Try.f64.body.getD .skip) [1, 1, 1, 0]), (cd (Try.f64.body.getD .skip) [1, 1, 1, 1])]) (N := (fun _ _ => False)) (N' := (fun _ _ => False)) (X := (fun i => (fun _ _ => False))) (X' := (fun i => (fun _ _ => False))) (R := s64_R K) (s := s) (w := w) (p := s64_p1 K (s 4) w) (q := s64_p1_den K s w) tr_id (fun i => tr_id) (by kernel_rfl) (by kernel_rfl) @h
def s64_p2 (K : Value → World → Prop) (B1 : List Value → World → Prop) (t0 t4 : Value) (w : World) : Prop :=
  lnS t0 (fun t8 w =>
  boI .gtr t8 (.int .i64 0) (fun t9 w =>
  ifb t9
  (cl Try.prog 91 #[t0] (fun t12 w =>
  exq t12 0 (fun t13 w =>
  exq t12 1 (fun t14 w =>
  boI .eql t14 (.int .i64 0) (fun t16 w =>
  ifb t16
  (K (.tuple #[(.int .i64 0), (.iface 86 (.string ⟨#[111, 99, 116, 101, 116, 115, 58, 32, 105, 108, 108, 45, 102, 111, 114, 109, 101, 100, 32, 85, 84, 70, 45, 56]⟩))]) w)
  (boI .add t4 (.int .i64 2) (fun t19 w =>
  boI .geq t13 (.int .u32 65536) (fun t21 w =>
  ifb t21
  (boI .add t19 (.int .i64 2) (fun t23 w =>
  sls 1 t0 (some t14) none (fun t26 w =>
  B1 [t26, t23] w) w) w)
  (sls 1 t0 (some t14) none (fun t26_2 w =>
  B1 [t26_2, t19] w) w)) w) w)) w) w) w) w)
  (s64_p1 K t4 w)) w) w
def s64_p2_den (K : Value → World → Prop) (M1 : (Nat → Value) → World → Prop) : (Nat → Value) → World → Prop := denL Try.prog [(cd (Try.f64.body.getD .skip) [1, 1, 0, 0, 0, 0, 0]), (cd (Try.f64.body.getD .skip) [1, 1, 0, 0, 0, 0, 1]), (cd (Try.f64.body.getD .skip) [1, 1, 0, 0, 0, 1])] M1 (fun i => (bif Nat.beq i 0 then (s64_p1_den K) else (fun _ _ => False))) (s64_R K)
theorem s64_p2_ok (K : Value → World → Prop) (B1 : List Value → World → Prop) (s : Nat → Value) (w : World) (h : s64_p2 K B1 (s 0) (s 4) w) : Tr (s64_p2_den K (fun s w => B1 [s 0, s 4] w) s w) :=
  tr_simple (P := Try.prog) (codes := [(cd (Try.f64.body.getD .skip) [1, 1, 0, 0, 0, 0, 0]), (cd (Try.f64.body.getD .skip) [1, 1, 0, 0, 0, 0, 1]), (cd (Try.f64.body.getD .skip) [1, 1, 0, 0, 0, 1])]) (N := (fun s w => B1 [s 0, s 4] w)) (N' := (fun s w => B1 [s 0, s 4] w)) (X := (fun i => (bif Nat.beq i 0 then (fun s w => s64_p1 K (s 4) w) else (fun _ _ => False)))) (X' := (fun i => (bif Nat.beq i 0 then (s64_p1_den K) else (fun _ _ => False)))) (R := s64_R K) (s := s) (w := w) (p := s64_p2 K B1 (s 0) (s 4) w) (q := s64_p2_den K (fun s w => B1 [s 0, s 4] w) s w) tr_id (fun i => (tr_bif (fun s w h => s64_p1_ok K s w @h) tr_id)) (by kernel_rfl) (by kernel_rfl) @h
def s64_p3_F (K : Value → World → Prop) (B1 : List Value → World → Prop) (l : List Value) (w : World) : Prop :=
  match l with
  | [t0, t4] => s64_p2 K B1 t0 t4 w
  | _ => False
theorem s64_p3_Fe {K : Value → World → Prop} {B1 : List Value → World → Prop} {t0 t4 : Value} {w : World} : s64_p3_F K B1 [t0, t4] w = s64_p2 K B1 t0 t4 w := by kernel_rfl
def s64_p3 (K : Value → World → Prop) (t0 t4 : Value) (w : World) : Prop :=
  LoopL (s64_p3_F K) [t0, t4] w
def s64_p3_den (K : Value → World → Prop) : (Nat → Value) → World → Prop := fun s w => LoopP (fun M1 s w => s64_p2_den K M1 s w) s w
theorem s64_p3_ok (K : Value → World → Prop) (s : Nat → Value) (w : World) (h : s64_p3 K (s 0) (s 4) w) : Tr (s64_p3_den K s w) :=
  tr_loop (G := fun N' s w => s64_p2_den K N' s w) (F := s64_p3_F K) (sel := fun s => [s 0, s 4]) (s := s) (w := w) (p := s64_p3 K (s 0) (s 4) w) (q := s64_p3_den K s w) (fun B s w h => s64_p2_ok K B s w @h) (by kernel_rfl) (by kernel_rfl) @h
def s64_p4 (K : Value → World → Prop) (t0 : Value) (w : World) : Prop :=
  s64_p3 K t0 (.int .i64 0) w
def s64_p4_den (K : Value → World → Prop) : (Nat → Value) → World → Prop := denL Try.prog [(cd (Try.f64.body.getD .skip) [0]), (cd (Try.f64.body.getD .skip) [1, 0])] (s64_p3_den K) (fun i => (fun _ _ => False)) (s64_R K)
theorem s64_p4_ok (K : Value → World → Prop) (s : Nat → Value) (w : World) (h : s64_p4 K (s 0) w) : Tr (s64_p4_den K s w) :=
  tr_simple (P := Try.prog) (codes := [(cd (Try.f64.body.getD .skip) [0]), (cd (Try.f64.body.getD .skip) [1, 0])]) (N := (fun s w => s64_p3 K (s 0) (s 4) w)) (N' := (s64_p3_den K)) (X := (fun i => (fun _ _ => False))) (X' := (fun i => (fun _ _ => False))) (R := s64_R K) (s := s) (w := w) (p := s64_p4 K (s 0) w) (q := s64_p4_den K s w) (fun s w h => s64_p3_ok K s w @h) (fun i => tr_id) (by kernel_rfl) (by kernel_rfl) @h
/-- the call, from the text -/
theorem c64 (t0 : Value) {K : Value → World → Prop} {w : World} (h : s64_p4 K t0 w) : cl Try.prog 64 #[t0] K w :=
  calls_of_tr (c := (Try.f64.body.getD .skip)) (fn := Try.f64) (q := s64_p4_den K (st0 #[t0]) w) Try.func64 (by kernel_rfl) (by kernel_rfl) (Nat.le_of_ble_eq_true (by kernel_rfl)) (by kernel_rfl) (by kernel_rfl) (s64_p4_ok K (st0 #[t0]) w @h)

/-! ### function 82 : e2e.octets.AppendLE16 -/
def s82_R (K : Value → World → Prop) (s : Nat → Value) (w : World) : Prop := retv Try.prog s Try.f82.results.toList (fun vs => K (pack vs) w) w
def s82_p1 (K : Value → World → Prop) (t0 t1 : Value) (w : World) : Prop :=
  cvi .u8 t1 (fun t7 w =>
  boI .shr t1 (.int .u64 8) (fun t9 w =>
  cvi .u8 t9 (fun t10 w =>
  bsq 5 [(.int .u8 0)] 2 [(some (0, 1), t7), (some (1, 1), t10)] (fun t11 w =>
  apq 5 [(.int .u8 0)] 1 t0 t11 (fun t12 w =>
  K t12 w) w) w) w) w) w
def s82_p1_den (K : Value → World → Prop) : (Nat → Value) → World → Prop := denL Try.prog [(cd (Try.f82.body.getD .skip) [0]), (cd (Try.f82.body.getD .skip) [1, 0]), (cd (Try.f82.body.getD .skip) [1, 1])] (fun _ _ => False) (fun i => (fun _ _ => False)) (s82_R K)
theorem s82_p1_ok (K : Value → World → Prop) (s : Nat → Value) (w : World) (h : s82_p1 K (s 0) (s 1) w) : Tr (s82_p1_den K s w) :=
  tr_simple (P := Try.prog) (codes := [(cd (Try.f82.body.getD .skip) [0]), (cd (Try.f82.body.getD .skip) [1, 0]), (cd (Try.f82.body.getD .skip) [1, 1])]) (N := (fun _ _ => False)) (N' := (fun _ _ => False)) (X := (fun i => (fun _ _ => False))) (X' := (fun i => (fun _ _ => False))) (R := s82_R K) (s := s) (w := w) (p := s82_p1 K (s 0) (s 1) w) (q := s82_p1_den K s w) tr_id (fun i => tr_id) (by kernel_rfl) (by kernel_rfl) @h
/-- the call, from the text -/
theorem c82 (t0 t1 : Value) {K : Value → World → Prop} {w : World} (h : s82_p1 K t0 t1 w) : cl Try.prog 82 #[t0, t1] K w :=
  calls_of_tr (c := (Try.f82.body.getD .skip)) (fn := Try.f82) (q := s82_p1_den K (st0 #[t0, t1]) w) Try.func82 (by kernel_rfl) (by kernel_rfl) (Nat.le_of_ble_eq_true (by kernel_rfl)) (by kernel_rfl) (by kernel_rfl) (s82_p1_ok K (st0 #[t0, t1]) w @h)

/-! ### function 91 : e2e.octets.scalar -/
def s91_R (K : Value → World → Prop) (s : Nat → Value) (w : World) : Prop := retv Try.prog s Try.f91.results.toList (fun vs => K (pack vs) w) w
def s91_p1 (K : Value → World → Prop) (w : World) : Prop :=
  K (.tuple #[(.int .u32 0), (.int .i64 0)]) w
def s91_p1_den (K : Value → World → Prop) : (Nat → Value) → World → Prop := denL Try.prog [(cd (Try.f91.body.getD .skip) [1, 1, 1, 1, 0]), (cd (Try.f91.body.getD .skip) [1, 1, 1, 1, 1])] (fun _ _ => False) (fun i => (fun _ _ => False)) (s91_R K)
theorem s91_p1_ok (K : Value → World → Prop) (s : Nat → Value) (w : World) (h : s91_p1 K w) : Tr (s91_p1_den K s w) :=
  tr_simple (P := Try.prog) (codes := [(cd (Try.f91.body.getD .skip) [1, 1, 1, 1, 0]), (cd (Try.f91.body.getD .skip) [1, 1, 1, 1, 1])]) (N := (fun _ _ => False)) (N' := (fun _ _ => False)) (X := (fun i => (fun _ _ => False))) (X' := (fun i => (fun _ _ => False))) (R := s91_R K) (s := s) (w := w) (p := s91_p1 K w) (q := s91_p1_den K s w) tr_id (fun i => tr_id) (by kernel_rfl) (by kernel_rfl) @h
def s91_p2 (K : Value → World → Prop) (t4 : Value) (w : World) : Prop :=
  cvi .u32 t4 (fun t15 w =>
  K (.tuple #[t15, (.int .i64 1)]) w) w
def s91_p2_den (K : Value → World → Prop) : (Nat → Value) → World → Prop := denL Try.prog [(cd (Try.f91.body.getD .skip) [1, 1, 1, 0, 0, 1, 0, 0]), (cd (Try.f91.body.getD .skip) [1, 1, 1, 0, 0, 1, 0, 1])] (fun _ _ => False) (fun i => (bif Nat.beq i 0 then (s91_p1_den K) else (fun _ _ => False))) (s91_R K)
theorem s91_p2_ok (K : Value → World → Prop) (s : Nat → Value) (w : World) (h : s91_p2 K (s 4) w) : Tr (s91_p2_den K s w) :=
  tr_simple (P := Try.prog) (codes := [(cd (Try.f91.body.getD .skip) [1, 1, 1, 0, 0, 1, 0, 0]), (cd (Try.f91.body.getD .skip) [1, 1, 1, 0, 0, 1, 0, 1])]) (N := (fun _ _ => False)) (N' := (fun _ _ => False)) (X := (fun i => (bif Nat.beq i 0 then (fun s w => s91_p1 K w) else (fun _ _ => False)))) (X' := (fun i => (bif Nat.beq i 0 then (s91_p1_den K) else (fun _ _ => False)))) (R := s91_R K) (s := s) (w := w) (p := s91_p2 K (s 4) w) (q := s91_p2_den K s w) tr_id (fun i => (tr_bif (fun s w h => s91_p1_ok K s w @h) tr_id)) (by kernel_rfl) (by kernel_rfl) @h
def s91_p3 (K : Value → World → Prop) (w : World) : Prop :=
  K (.tuple #[(.int .u32 0), (.int .i64 0)]) w
def s91_p3_den (K : Value → World → Prop) : (Nat → Value) → World → Prop := denL Try.prog [(cd (Try.f91.body.getD .skip) [1, 1, 1, 0, 0, 1, 1, 1, 0, 0]), (cd (Try.f91.body.getD .skip) [1, 1, 1, 0, 0, 1, 1, 1, 0, 1])] (fun _ _ => False) (fun i => (bif Nat.beq i 0 then (s91_p1_den K) else (fun _ _ => False))) (s91_R K)
theorem s91_p3_ok (K : Value → World → Prop) (s : Nat → Value) (w : World) (h : s91_p3 K w) : Tr (s91_p3_den K s w) :=
  tr_simple (P := Try.prog) (codes := [(cd (Try.f91.body.getD .skip) [1, 1, 1, 0, 0, 1, 1, 1, 0, 0]), (cd (Try.f91.body.getD .skip) [1, 1, 1, 0, 0, 1, 1, 1, 0, 1])]) (N := (fun _ _ => False)) (N' := (fun _ _ => False)) (X := (fun i => (bif Nat.beq i 0 then (fun s w => s91_p1 K w) else (fun _ _ => False)))) (X' := (fun i => (bif Nat.beq i 0 then (s91_p1_den K) else (fun _ _ => False)))) (R := s91_R K) (s := s) (w := w) (p := s91_p3 K w) (q := s91_p3_den K s w) tr_id (fun i => (tr_bif (fun s w h => s91_p1_ok K s w @h) tr_id)) (by kernel_rfl) (by kernel_rfl) @h
def s91_p4 (K : Value → World → Prop) (t0 t4 : Value) (w : World) : Prop :=
  lnS t0 (fun t23 w =>
  boI .lss t23 (.int .i64 2) (fun t24 w =>
  gd t24 false (fun K w => K t0 w) (fun t26 w =>
  gd t24 false (ixs 1 t26 (.int .i64 1)) (fun t27 w =>
  gd t24 false (ld1 t27) (fun t28 w =>
  gd t24 false (cl Try.prog 105 #[t28]) (fun t29 w =>
  gd t24 false (un .not t29) (fun t30 w =>
  pk t24 (.bool true) t30 (fun t31 w =>
  ifb t31
  (K (.tuple #[(.int .u32 0), (.int .i64 0)]) w)
  (boI .and t4 (.int .u8 31) (fun t33 w =>
  cvi .u32 t33 (fun t34 w =>
  boI .shl t34 (.int .u64 6) (fun t35 w =>
  ixs 1 t0 (.int .i64 1) (fun t37 w =>
  ld1 t37 (fun t38 w =>
  boI .and t38 (.int .u8 63) (fun t39 w =>
  cvi .u32 t39 (fun t40 w =>
  boI .or t35 t40 (fun t41 w =>
  K (.tuple #[t41, (.int .i64 2)]) w) w) w) w) w) w) w) w) w)) w) w) w) w) w) w) w) w
def s91_p4_den (K : Value → World → Prop) : (Nat → Value) → World → Prop := denL Try.prog [(cd (Try.f91.body.getD .skip) [1, 1, 1, 0, 0, 1, 1, 1, 1, 1, 0, 0, 0]), (cd (Try.f91.body.getD .skip) [1, 1, 1, 0, 0, 1, 1, 1, 1, 1, 0, 0, 1]), (cd (Try.f91.body.getD .skip) [1, 1, 1, 0, 0, 1, 1, 1, 1, 1, 0, 1, 0]), (cd (Try.f91.body.getD .skip) [1, 1, 1, 0, 0, 1, 1, 1, 1, 1, 0, 1, 1])] (fun _ _ => False) (fun i => (bif Nat.beq i 0 then (s91_p1_den K) else (fun _ _ => False))) (s91_R K)
theorem s91_p4_ok (K : Value → World → Prop) (s : Nat → Value) (w : World) (h : s91_p4 K (s 0) (s 4) w) : Tr (s91_p4_den K s w) :=
  tr_simple (P := Try.prog) (codes := [(cd (Try.f91.body.getD .skip) [1, 1, 1, 0, 0, 1, 1, 1, 1, 1, 0, 0, 0]), (cd (Try.f91.body.getD .skip) [1, 1, 1, 0, 0, 1, 1, 1, 1, 1, 0, 0, 1]), (cd (Try.f91.body.getD .skip) [1, 1, 1, 0, 0, 1, 1, 1, 1, 1, 0, 1, 0]), (cd (Try.f91.body.getD .skip) [1, 1, 1, 0, 0, 1, 1, 1, 1, 1, 0, 1, 1])]) (N := (fun _ _ => False)) (N' := (fun _ _ => False)) (X := (fun i => (bif Nat.beq i 0 then (fun s w => s91_p1 K w) else (fun _ _ => False)))) (X' := (fun i => (bif Nat.beq i 0 then (s91_p1_den K) else (fun _ _ => False)))) (R := s91_R K) (s := s) (w := w) (p := s91_p4 K (s 0) (s 4) w) (q := s91_p4_den K s w) tr_id (fun i => (tr_bif (fun s w h => s91_p1_ok K s w @h) tr_id)) (by kernel_rfl) (by kernel_rfl) @h
def s91_p5 (K : Value → World → Prop) (t2 : Value) (w : World) : Prop :=
  boI .lss t2 (.int .u32 2048) (fun t80 w =>
  gd t80 false (fun K w => K t2 w) (fun t82 w =>
  gd t80 false (boI .sub t82 (.int .u32 55296)) (fun t83 w =>
  gd t80 false (boI .lss t83 (.int .u32 2048)) (fun t84 w =>
  pk t80 (.bool true) t84 (fun t85 w =>
  ifb t85
  (K (.tuple #[(.int .u32 0), (.int .i64 0)]) w)
  (K (.tuple #[t2, (.int .i64 3)]) w)) w) w) w) w) w
def s91_p5_den (K : Value → World → Prop) : (Nat → Value) → World → Prop := denL Try.prog [(cd (Try.f91.body.getD .skip) [1, 1, 1, 0, 0, 1, 1, 1, 1, 1, 1, 1, 0, 1, 1, 0, 0]), (cd (Try.f91.body.getD .skip) [1, 1, 1, 0, 0, 1, 1, 1, 1, 1, 1, 1, 0, 1, 1, 0, 1]), (cd (Try.f91.body.getD .skip) [1, 1, 1, 0, 0, 1, 1, 1, 1, 1, 1, 1, 0, 1, 1, 1, 0]), (cd (Try.f91.body.getD .skip) [1, 1, 1, 0, 0, 1, 1, 1, 1, 1, 1, 1, 0, 1, 1, 1, 1])] (fun _ _ => False) (fun i => (bif Nat.beq i 0 then (s91_p1_den K) else (fun _ _ => False))) (s91_R K)
theorem s91_p5_ok (K : Value → World → Prop) (s : Nat → Value) (w : World) (h : s91_p5 K (s 2) w) : Tr (s91_p5_den K s w) :=
  tr_simple (P := Try.prog) (codes := [(cd (Try.f91.body.getD .skip) [1, 1, 1, 0, 0, 1, 1, 1, 1, 1, 1, 1, 0, 1, 1, 0, 0]), (cd (Try.f91.body.getD .skip) [1, 1, 1, 0, 0, 1, 1, 1, 1, 1, 1, 1, 0, 1, 1, 0, 1]), (cd (Try.f91.body.getD .skip) [1, 1, 1, 0, 0, 1, 1, 1, 1, 1, 1, 1, 0, 1, 1, 1, 0]), (cd (Try.f91.body.getD .skip) [1, 1, 1, 0, 0, 1, 1, 1, 1, 1, 1, 1, 0, 1, 1, 1, 1])]) (N := (fun _ _ => False)) (N' := (fun _ _ => False)) (X := (fun i => (bif Nat.beq i 0 then (fun s w => s91_p1 K w) else (fun _ _ => False)))) (X' := (fun i => (bif Nat.beq i 0 then (s91_p1_den K) else (fun _ _ => False)))) (R := s91_R K) (s := s) (w := w) (p := s91_p5 K (s 2) w) (q := s91_p5_den K s w) tr_id (fun i => (tr_bif (fun s w h => s91_p1_ok K s w @h) tr_id)) (by kernel_rfl) (by kernel_rfl) @h
def s91_p6_d (K : Value → World → Prop) (t0 t4 : Value) (w0 w : World) : Prop :=
  boI .and t4 (.int .u8 15) (fun t63 _ =>
  cvi .u32 t63 (fun t64 _ =>
  boI .shl t64 (.int .u64 12) (fun t65 _ =>
  ixs 1 t0 (.int .i64 1) (fun t67 _ =>
  ld1 t67 (fun t68 _ =>
  boI .and t68 (.int .u8 63) (fun t69 _ =>
  cvi .u32 t69 (fun t70 _ =>
  boI .shl t70 (.int .u64 6) (fun t71 _ =>
  boI .or t65 t71 (fun t72 _ =>
  ixs 1 t0 (.int .i64 2) (fun t74 _ =>
  ld1 t74 (fun t75 _ =>
  boI .and t75 (.int .u8 63) (fun t76 _ =>
  cvi .u32 t76 (fun t77 _ =>
  boI .or t72 t77 (fun t78 _ =>
  s91_p5 K t78 w) w0) w0) w0) w0) w0) w0) w0) w0) w0) w0) w0) w0) w0) w0
def s91_p6 (K : Value → World → Prop) (t0 t4 : Value) (w : World) : Prop := s91_p6_d K t0 t4 (drw w) (drw w)
def s91_p6_den (K : Value → World → Prop) : (Nat → Value) → World → Prop := denL Try.prog [(cd (Try.f91.body.getD .skip) [1, 1, 1, 0, 0, 1, 1, 1, 1, 1, 1, 1, 0, 1, 0])] (s91_p5_den K) (fun i => (bif Nat.beq i 0 then (s91_p1_den K) else (fun _ _ => False))) (s91_R K)
theorem s91_p6_ok (K : Value → World → Prop) (s : Nat → Value) (w : World) (h : s91_p6 K (s 0) (s 4) w) : Tr (s91_p6_den K s w) :=
  tr_draw (P := Try.prog) (ops := (ro (cd (Try.f91.body.getD .skip) [1, 1, 1, 0, 0, 1, 1, 1, 1, 1, 1, 1, 0, 1, 0]))) (ms := [0, 1, 3, 7, 0, 16, 48, 112, 240, 496, 1023, 0, 2048, 6144, 14336, 30720, 65535, 131071]) (cs := [0, 1, 2, 3, 4, 5, 6, 7, 8, 9, 10, 11, 12, 13, 14, 15, 16, 17]) (N := (fun s w => s91_p5 K (s 2) w)) (N' := (s91_p5_den K)) (s := s) (w := w) (p := s91_p6 K (s 0) (s 4) w) (q := s91_p6_den K s w) (by kernel_rfl) (by kernel_rfl) (fun s w h => s91_p5_ok K s w @h) (by kernel_rfl) (by kernel_rfl) @h
def s91_p7 (K : Value → World → Prop) (t0 t4 : Value) (w : World) : Prop :=
  lnS t0 (fun t46 w =>
  boI .lss t46 (.int .i64 3) (fun t47 w =>
  gd t47 false (fun K w => K t0 w) (fun t49 w =>
  gd t47 false (ixs 1 t49 (.int .i64 1)) (fun t50 w =>
  gd t47 false (ld1 t50) (fun t51 w =>
  gd t47 false (cl Try.prog 105 #[t51]) (fun t52 w =>
  gd t47 false (un .not t52) (fun t53 w =>
  pk t47 (.bool true) t53 (fun t54 w =>
  gd t54 false (fun K w => K t0 w) (fun t56 w =>
  gd t54 false (ixs 1 t56 (.int .i64 2)) (fun t57 w =>
  gd t54 false (ld1 t57) (fun t58 w =>
  gd t54 false (cl Try.prog 105 #[t58]) (fun t59 w =>
  gd t54 false (un .not t59) (fun t60 w =>
  pk t54 (.bool true) t60 (fun t61 w =>
  ifb t61
  (K (.tuple #[(.int .u32 0), (.int .i64 0)]) w)
  (s91_p6 K t0 t4 w)) w) w) w) w) w) w) w) w) w) w) w) w) w) w
def s91_p7_den (K : Value → World → Prop) : (Nat → Value) → World → Prop := denL Try.prog [(cd (Try.f91.body.getD .skip) [1, 1, 1, 0, 0, 1, 1, 1, 1, 1, 1, 1, 0, 0, 0]), (cd (Try.f91.body.getD .skip) [1, 1, 1, 0, 0, 1, 1, 1, 1, 1, 1, 1, 0, 0, 1])] (s91_p6_den K) (fun i => (bif Nat.beq i 0 then (s91_p1_den K) else (fun _ _ => False))) (s91_R K)
theorem s91_p7_ok (K : Value → World → Prop) (s : Nat → Value) (w : World) (h : s91_p7 K (s 0) (s 4) w) : Tr (s91_p7_den K s w) :=
  tr_simple (P := Try.prog) (codes := [(cd (Try.f91.body.getD .skip) [1, 1, 1, 0, 0, 1, 1, 1, 1, 1, 1, 1, 0, 0, 0]), (cd (Try.f91.body.getD .skip) [1, 1, 1, 0, 0, 1, 1, 1, 1, 1, 1, 1, 0, 0, 1])]) (N := (fun s w => s91_p6 K (s 0) (s 4) w)) (N' := (s91_p6_den K)) (X := (fun i => (bif Nat.beq i 0 then (fun s w => s91_p1 K w) else (fun _ _ => False)))) (X' := (fun i => (bif Nat.beq i 0 then (s91_p1_den K) else (fun _ _ => False)))) (R := s91_R K) (s := s) (w := w) (p := s91_p7 K (s 0) (s 4) w) (q := s91_p7_den K s w) (fun s w h => s91_p6_ok K s w @h) (fun i => (tr_bif (fun s w h => s91_p1_ok K s w @h) tr_id)) (by kernel_rfl) (by kernel_rfl) @h
def s91_p8 (K : Value → World → Prop) (t2 : Value) (w : World) : Prop :=
  boI .lss t2 (.int .u32 65536) (fun t139 w =>
  gd t139 false (fun K w => K t2 w) (fun t141 w =>
  gd t139 false (boI .gtr t141 (.int .u32 1114111)) (fun t142 w =>
  pk t139 (.bool true) t142 (fun t143 w =>
  ifb t143
  (K (.tuple #[(.int .u32 0), (.int .i64 0)]) w)
  (K (.tuple #[t2, (.int .i64 4)]) w)) w) w) w) w
def s91_p8_den (K : Value → World → Prop) : (Nat → Value) → World → Prop := denL Try.prog [(cd (Try.f91.body.getD .skip) [1, 1, 1, 0, 0, 1, 1, 1, 1, 1, 1, 1, 1, 1, 0, 1, 1, 0, 0]), (cd (Try.f91.body.getD .skip) [1, 1, 1, 0, 0, 1, 1, 1, 1, 1, 1, 1, 1, 1, 0, 1, 1, 0, 1]), (cd (Try.f91.body.getD .skip) [1, 1, 1, 0, 0, 1, 1, 1, 1, 1, 1, 1, 1, 1, 0, 1, 1, 1, 0]), (cd (Try.f91.body.getD .skip) [1, 1, 1, 0, 0, 1, 1, 1, 1, 1, 1, 1, 1, 1, 0, 1, 1, 1, 1])] (fun _ _ => False) (fun i => (bif Nat.beq i 0 then (s91_p1_den K) else (fun _ _ => False))) (s91_R K)
theorem s91_p8_ok (K : Value → World → Prop) (s : Nat → Value) (w : World) (h : s91_p8 K (s 2) w) : Tr (s91_p8_den K s w) :=
  tr_simple (P := Try.prog) (codes := [(cd (Try.f91.body.getD .skip) [1, 1, 1, 0, 0, 1, 1, 1, 1, 1, 1, 1, 1, 1, 0, 1, 1, 0, 0]), (cd (Try.f91.body.getD .skip) [1, 1, 1, 0, 0, 1, 1, 1, 1, 1, 1, 1, 1, 1, 0, 1, 1, 0, 1]), (cd (Try.f91.body.getD .skip) [1, 1, 1, 0, 0, 1, 1, 1, 1, 1, 1, 1, 1, 1, 0, 1, 1, 1, 0]), (cd (Try.f91.body.getD .skip) [1, 1, 1, 0, 0, 1, 1, 1, 1, 1, 1, 1, 1, 1, 0, 1, 1, 1, 1])]) (N := (fun _ _ => False)) (N' := (fun _ _ => False)) (X := (fun i => (bif Nat.beq i 0 then (fun s w => s91_p1 K w) else (fun _ _ => False)))) (X' := (fun i => (bif Nat.beq i 0 then (s91_p1_den K) else (fun _ _ => False)))) (R := s91_R K) (s := s) (w := w) (p := s91_p8 K (s 2) w) (q := s91_p8_den K s w) tr_id (fun i => (tr_bif (fun s w h => s91_p1_ok K s w @h) tr_id)) (by kernel_rfl) (by kernel_rfl) @h
def s91_p9_d (K : Value → World → Prop) (t0 t4 : Value) (w0 w : World) : Prop :=
  boI .and t4 (.int .u8 7) (fun t115 _ =>
  cvi .u32 t115 (fun t116 _ =>
  boI .shl t116 (.int .u64 18) (fun t117 _ =>
  ixs 1 t0 (.int .i64 1) (fun t119 _ =>
  ld1 t119 (fun t120 _ =>
  boI .and t120 (.int .u8 63) (fun t121 _ =>
  cvi .u32 t121 (fun t122 _ =>
  boI .shl t122 (.int .u64 12) (fun t123 _ =>
  boI .or t117 t123 (fun t124 _ =>
  ixs 1 t0 (.int .i64 2) (fun t126 _ =>
  ld1 t126 (fun t127 _ =>
  boI .and t127 (.int .u8 63) (fun t128 _ =>
  cvi .u32 t128 (fun t129 _ =>
  boI .shl t129 (.int .u64 6) (fun t130 _ =>
  boI .or t124 t130 (fun t131 _ =>
  ixs 1 t0 (.int .i64 3) (fun t133 _ =>
  ld1 t133 (fun t134 _ =>
  boI .and t134 (.int .u8 63) (fun t135 _ =>
  cvi .u32 t135 (fun t136 _ =>
  boI .or t131 t136 (fun t137 _ =>
  s91_p8 K t137 w) w0) w0) w0) w0) w0) w0) w0) w0) w0) w0) w0) w0) w0) w0) w0) w0) w0) w0) w0) w0
def s91_p9 (K : Value → World → Prop) (t0 t4 : Value) (w : World) : Prop := s91_p9_d K t0 t4 (drw w) (drw w)
def s91_p9_den (K : Value → World → Prop) : (Nat → Value) → World → Prop := denL Try.prog [(cd (Try.f91.body.getD .skip) [1, 1, 1, 0, 0, 1, 1, 1, 1, 1, 1, 1, 1, 1, 0, 1, 0])] (s91_p8_den K) (fun i => (bif Nat.beq i 0 then (s91_p1_den K) else (fun _ _ => False))) (s91_R K)
theorem s91_p9_ok (K : Value → World → Prop) (s : Nat → Value) (w : World) (h : s91_p9 K (s 0) (s 4) w) : Tr (s91_p9_den K s w) :=
  tr_draw (P := Try.prog) (ops := (ro (cd (Try.f91.body.getD .skip) [1, 1, 1, 0, 0, 1, 1, 1, 1, 1, 1, 1, 1, 1, 0, 1, 0]))) (ms := [0, 1, 3, 7, 0, 16, 48, 112, 240, 496, 1023, 0, 2048, 6144, 14336, 30720, 63488, 131071, 0, 262144, 786432, 1835008, 3932160, 8388607, 16777215]) (cs := [0, 1, 2, 3, 4, 5, 6, 7, 8, 9, 10, 11, 12, 13, 14, 15, 16, 17, 18, 19, 20, 21, 22, 23, 24]) (N := (fun s w => s91_p8 K (s 2) w)) (N' := (s91_p8_den K)) (s := s) (w := w) (p := s91_p9 K (s 0) (s 4) w) (q := s91_p9_den K s w) (by kernel_rfl) (by kernel_rfl) (fun s w h => s91_p8_ok K s w @h) (by kernel_rfl) (by kernel_rfl) @h
def s91_p10 (K : Value → World → Prop) (t0 t4 : Value) (w : World) : Prop :=
  lnS t0 (fun t91 w =>
  boI .lss t91 (.int .i64 4) (fun t92 w =>
  gd t92 false (fun K w => K t0 w) (fun t94 w =>
  gd t92 false (ixs 1 t94 (.int .i64 1)) (fun t95 w =>
  gd t92 false (ld1 t95) (fun t96 w =>
  gd t92 false (cl Try.prog 105 #[t96]) (fun t97 w =>
  gd t92 false (un .not t97) (fun t98 w =>
  pk t92 (.bool true) t98 (fun t99 w =>
  gd t99 false (fun K w => K t0 w) (fun t101 w =>
  gd t99 false (ixs 1 t101 (.int .i64 2)) (fun t102 w =>
  gd t99 false (ld1 t102) (fun t103 w =>
  gd t99 false (cl Try.prog 105 #[t103]) (fun t104 w =>
  gd t99 false (un .not t104) (fun t105 w =>
  pk t99 (.bool true) t105 (fun t106 w =>
  gd t106 false (fun K w => K t0 w) (fun t108 w =>
  gd t106 false (ixs 1 t108 (.int .i64 3)) (fun t109 w =>
  gd t106 false (ld1 t109) (fun t110 w =>
  gd t106 false (cl Try.prog 105 #[t110]) (fun t111 w =>
  gd t106 false (un .not t111) (fun t112 w =>
  pk t106 (.bool true) t112 (fun t113 w =>
  ifb t113
  (K (.tuple #[(.int .u32 0), (.int .i64 0)]) w)
  (s91_p9 K t0 t4 w)) w) w) w) w) w) w) w) w) w) w) w) w) w) w) w) w) w) w) w) w
def s91_p10_den (K : Value → World → Prop) : (Nat → Value) → World → Prop := denL Try.prog [(cd (Try.f91.body.getD .skip) [1, 1, 1, 0, 0, 1, 1, 1, 1, 1, 1, 1, 1, 1, 0, 0, 0]), (cd (Try.f91.body.getD .skip) [1, 1, 1, 0, 0, 1, 1, 1, 1, 1, 1, 1, 1, 1, 0, 0, 1])] (s91_p9_den K) (fun i => (bif Nat.beq i 0 then (s91_p1_den K) else (fun _ _ => False))) (s91_R K)
theorem s91_p10_ok (K : Value → World → Prop) (s : Nat → Value) (w : World) (h : s91_p10 K (s 0) (s 4) w) : Tr (s91_p10_den K s w) :=
  tr_simple (P := Try.prog) (codes := [(cd (Try.f91.body.getD .skip) [1, 1, 1, 0, 0, 1, 1, 1, 1, 1, 1, 1, 1, 1, 0, 0, 0]), (cd (Try.f91.body.getD .skip) [1, 1, 1, 0, 0, 1, 1, 1, 1, 1, 1, 1, 1, 1, 0, 0, 1])]) (N := (fun s w => s91_p9 K (s 0) (s 4) w)) (N' := (s91_p9_den K)) (X := (fun i => (bif Nat.beq i 0 then (fun s w => s91_p1 K w) else (fun _ _ => False)))) (X' := (fun i => (bif Nat.beq i 0 then (s91_p1_den K) else (fun _ _ => False)))) (R := s91_R K) (s := s) (w := w) (p := s91_p10 K (s 0) (s 4) w) (q := s91_p10_den K s w) (fun s w h => s91_p9_ok K s w @h) (fun i => (tr_bif (fun s w h => s91_p1_ok K s w @h) tr_id)) (by kernel_rfl) (by kernel_rfl) @h
def s91_p11 (K : Value → World → Prop) (t0 t4 t87 : Value) (w : World) : Prop :=
  ifb t87
  (s91_p10 K t0 t4 w)
  (s91_p1 K w)
def s91_p11_den (K : Value → World → Prop) : (Nat → Value) → World → Prop := fun s w => ifb (ev s (.tmp 87)) ((s91_p10_den K) s w) ((s91_p1_den K) s w)
theorem s91_p11_ok (K : Value → World → Prop) (s : Nat → Value) (w : World) (h : s91_p11 K (s 0) (s 4) (s 87) w) : Tr (s91_p11_den K s w) :=
  tr_cond (v := ev s (.tmp 87)) (a := (fun s w => s91_p10 K (s 0) (s 4) w) s w) (a' := (s91_p10_den K) s w) (b := (fun s w => s91_p1 K w) s w) (b' := (s91_p1_den K) s w) (p := s91_p11 K (s 0) (s 4) (s 87) w) (q := s91_p11_den K s w) ((fun s w h => s91_p10_ok K s w @h) s w) ((fun s w h => s91_p1_ok K s w @h) s w) (by kernel_rfl) (by kernel_rfl) @h
def s91_p12 (K : Value → World → Prop) (t0 t4 : Value) (w : World) : Prop :=
  boI .lss t4 (.int .u8 245) (fun t89 w =>
  s91_p11 K t0 t4 t89 w) w
def s91_p12_den (K : Value → World → Prop) : (Nat → Value) → World → Prop := denL Try.prog [(cd (Try.f91.body.getD .skip) [1, 1, 1, 0, 0, 1, 1, 1, 1, 1, 1, 1, 1, 0])] (s91_p11_den K) (fun i => (bif Nat.beq i 0 then (s91_p1_den K) else (fun _ _ => False))) (s91_R K)
theorem s91_p12_ok (K : Value → World → Prop) (s : Nat → Value) (w : World) (h : s91_p12 K (s 0) (s 4) w) : Tr (s91_p12_den K s w) :=
  tr_simple (P := Try.prog) (codes := [(cd (Try.f91.body.getD .skip) [1, 1, 1, 0, 0, 1, 1, 1, 1, 1, 1, 1, 1, 0])]) (N := (fun s w => s91_p11 K (s 0) (s 4) (s 87) w)) (N' := (s91_p11_den K)) (X := (fun i => (bif Nat.beq i 0 then (fun s w => s91_p1 K w) else (fun _ _ => False)))) (X' := (fun i => (bif Nat.beq i 0 then (s91_p1_den K) else (fun _ _ => False)))) (R := s91_R K) (s := s) (w := w) (p := s91_p12 K (s 0) (s 4) w) (q := s91_p12_den K s w) (fun s w h => s91_p11_ok K s w @h) (fun i => (tr_bif (fun s w h => s91_p1_ok K s w @h) tr_id)) (by kernel_rfl) (by kernel_rfl) @h
def s91_p13 (K : Value → World → Prop) (t0 t4 t42 : Value) (w : World) : Prop :=
  ifb t42
  (s91_p7 K t0 t4 w)
  (s91_p12 K t0 t4 w)
def s91_p13_den (K : Value → World → Prop) : (Nat → Value) → World → Prop := fun s w => ifb (ev s (.tmp 42)) ((s91_p7_den K) s w) ((s91_p12_den K) s w)
theorem s91_p13_ok (K : Value → World → Prop) (s : Nat → Value) (w : World) (h : s91_p13 K (s 0) (s 4) (s 42) w) : Tr (s91_p13_den K s w) :=
  tr_cond (v := ev s (.tmp 42)) (a := (fun s w => s91_p7 K (s 0) (s 4) w) s w) (a' := (s91_p7_den K) s w) (b := (fun s w => s91_p12 K (s 0) (s 4) w) s w) (b' := (s91_p12_den K) s w) (p := s91_p13 K (s 0) (s 4) (s 42) w) (q := s91_p13_den K s w) ((fun s w h => s91_p7_ok K s w @h) s w) ((fun s w h => s91_p12_ok K s w @h) s w) (by kernel_rfl) (by kernel_rfl) @h
def s91_p14 (K : Value → World → Prop) (t0 t4 : Value) (w : World) : Prop :=
  boI .lss t4 (.int .u8 240) (fun t44 w =>
  s91_p13 K t0 t4 t44 w) w
def s91_p14_den (K : Value → World → Prop) : (Nat → Value) → World → Prop := denL Try.prog [(cd (Try.f91.body.getD .skip) [1, 1, 1, 0, 0, 1, 1, 1, 1, 1, 1, 0])] (s91_p13_den K) (fun i => (bif Nat.beq i 0 then (s91_p1_den K) else (fun _ _ => False))) (s91_R K)
theorem s91_p14_ok (K : Value → World → Prop) (s : Nat → Value) (w : World) (h : s91_p14 K (s 0) (s 4) w) : Tr (s91_p14_den K s w) :=
  tr_simple (P := Try.prog) (codes := [(cd (Try.f91.body.getD .skip) [1, 1, 1, 0, 0, 1, 1, 1, 1, 1, 1, 0])]) (N := (fun s w => s91_p13 K (s 0) (s 4) (s 42) w)) (N' := (s91_p13_den K)) (X := (fun i => (bif Nat.beq i 0 then (fun s w => s91_p1 K w) else (fun _ _ => False)))) (X' := (fun i => (bif Nat.beq i 0 then (s91_p1_den K) else (fun _ _ => False)))) (R := s91_R K) (s := s) (w := w) (p := s91_p14 K (s 0) (s 4) w) (q := s91_p14_den K s w) (fun s w h => s91_p13_ok K s w @h) (fun i => (tr_bif (fun s w h => s91_p1_ok K s w @h) tr_id)) (by kernel_rfl) (by kernel_rfl) @h
def s91_p15 (K : Value → World → Prop) (t0 t4 t19 : Value) (w : World) : Prop :=
  ifb t19
  (s91_p4 K t0 t4 w)
  (s91_p14 K t0 t4 w)
def s91_p15_den (K : Value → World → Prop) : (Nat → Value) → World → Prop := fun s w => ifb (ev s (.tmp 19)) ((s91_p4_den K) s w) ((s91_p14_den K) s w)
theorem s91_p15_ok (K : Value → World → Prop) (s : Nat → Value) (w : World) (h : s91_p15 K (s 0) (s 4) (s 19) w) : Tr (s91_p15_den K s w) :=
  tr_cond (v := ev s (.tmp 19)) (a := (fun s w => s91_p4 K (s 0) (s 4) w) s w) (a' := (s91_p4_den K) s w) (b := (fun s w => s91_p14 K (s 0) (s 4) w) s w) (b' := (s91_p14_den K) s w) (p := s91_p15 K (s 0) (s 4) (s 19) w) (q := s91_p15_den K s w) ((fun s w h => s91_p4_ok K s w @h) s w) ((fun s w h => s91_p14_ok K s w @h) s w) (by kernel_rfl) (by kernel_rfl) @h
def s91_p16 (K : Value → World → Prop) (t0 t4 : Value) (w : World) : Prop :=
  boI .lss t4 (.int .u8 224) (fun t21 w =>
  s91_p15 K t0 t4 t21 w) w
def s91_p16_den (K : Value → World → Prop) : (Nat → Value) → World → Prop := denL Try.prog [(cd (Try.f91.body.getD .skip) [1, 1, 1, 0, 0, 1, 1, 1, 1, 0])] (s91_p15_den K) (fun i => (bif Nat.beq i 0 then (s91_p1_den K) else (fun _ _ => False))) (s91_R K)
theorem s91_p16_ok (K : Value → World → Prop) (s : Nat → Value) (w : World) (h : s91_p16 K (s 0) (s 4) w) : Tr (s91_p16_den K s w) :=
  tr_simple (P := Try.prog) (codes := [(cd (Try.f91.body.getD .skip) [1, 1, 1, 0, 0, 1, 1, 1, 1, 0])]) (N := (fun s w => s91_p15 K (s 0) (s 4) (s 19) w)) (N' := (s91_p15_den K)) (X := (fun i => (bif Nat.beq i 0 then (fun s w => s91_p1 K w) else (fun _ _ => False)))) (X' := (fun i => (bif Nat.beq i 0 then (s91_p1_den K) else (fun _ _ => False)))) (R := s91_R K) (s := s) (w := w) (p := s91_p16 K (s 0) (s 4) w) (q := s91_p16_den K s w) (fun s w h => s91_p15_ok K s w @h) (fun i => (tr_bif (fun s w h => s91_p1_ok K s w @h) tr_id)) (by kernel_rfl) (by kernel_rfl) @h
def s91_p17 (K : Value → World → Prop) (t0 t4 t16 : Value) (w : World) : Prop :=
  ifb t16
  (s91_p3 K w)
  (s91_p16 K t0 t4 w)
def s91_p17_den (K : Value → World → Prop) : (Nat → Value) → World → Prop := fun s w => ifb (ev s (.tmp 16)) ((s91_p3_den K) s w) ((s91_p16_den K) s w)
theorem s91_p17_ok (K : Value → World → Prop) (s : Nat → Value) (w : World) (h : s91_p17 K (s 0) (s 4) (s 16) w) : Tr (s91_p17_den K s w) :=
  tr_cond (v := ev s (.tmp 16)) (a := (fun s w => s91_p3 K w) s w) (a' := (s91_p3_den K) s w) (b := (fun s w => s91_p16 K (s 0) (s 4) w) s w) (b' := (s91_p16_den K) s w) (p := s91_p17 K (s 0) (s 4) (s 16) w) (q := s91_p17_den K s w) ((fun s w h => s91_p3_ok K s w @h) s w) ((fun s w h => s91_p16_ok K s w @h) s w) (by kernel_rfl) (by kernel_rfl) @h
def s91_p18 (K : Value → World → Prop) (t0 t4 : Value) (w : World) : Prop :=
  boI .lss t4 (.int .u8 194) (fun t18 w =>
  s91_p17 K t0 t4 t18 w) w
def s91_p18_den (K : Value → World → Prop) : (Nat → Value) → World → Prop := denL Try.prog [(cd (Try.f91.body.getD .skip) [1, 1, 1, 0, 0, 1, 1, 0])] (s91_p17_den K) (fun i => (bif Nat.beq i 0 then (s91_p1_den K) else (fun _ _ => False))) (s91_R K)
theorem s91_p18_ok (K : Value → World → Prop) (s : Nat → Value) (w : World) (h : s91_p18 K (s 0) (s 4) w) : Tr (s91_p18_den K s w) :=
  tr_simple (P := Try.prog) (codes := [(cd (Try.f91.body.getD .skip) [1, 1, 1, 0, 0, 1, 1, 0])]) (N := (fun s w => s91_p17 K (s 0) (s 4) (s 16) w)) (N' := (s91_p17_den K)) (X := (fun i => (bif Nat.beq i 0 then (fun s w => s91_p1 K w) else (fun _ _ => False)))) (X' := (fun i => (bif Nat.beq i 0 then (s91_p1_den K) else (fun _ _ => False)))) (R := s91_R K) (s := s) (w := w) (p := s91_p18 K (s 0) (s 4) w) (q := s91_p18_den K s w) (fun s w h => s91_p17_ok K s w @h) (fun i => (tr_bif (fun s w h => s91_p1_ok K s w @h) tr_id)) (by kernel_rfl) (by kernel_rfl) @h
def s91_p19 (K : Value → World → Prop) (t0 t4 t11 : Value) (w : World) : Prop :=
  ifb t11
  (s91_p2 K t4 w)
  (s91_p18 K t0 t4 w)
def s91_p19_den (K : Value → World → Prop) : (Nat → Value) → World → Prop := fun s w => ifb (ev s (.tmp 11)) ((s91_p2_den K) s w) ((s91_p18_den K) s w)
theorem s91_p19_ok (K : Value → World → Prop) (s : Nat → Value) (w : World) (h : s91_p19 K (s 0) (s 4) (s 11) w) : Tr (s91_p19_den K s w) :=
  tr_cond (v := ev s (.tmp 11)) (a := (fun s w => s91_p2 K (s 4) w) s w) (a' := (s91_p2_den K) s w) (b := (fun s w => s91_p18 K (s 0) (s 4) w) s w) (b' := (s91_p18_den K) s w) (p := s91_p19 K (s 0) (s 4) (s 11) w) (q := s91_p19_den K s w) ((fun s w h => s91_p2_ok K s w @h) s w) ((fun s w h => s91_p18_ok K s w @h) s w) (by kernel_rfl) (by kernel_rfl) @h
def s91_p20 (K : Value → World → Prop) (t0 t4 : Value) (w : World) : Prop :=
  boI .lss t4 (.int .u8 128) (fun t13 w =>
  s91_p19 K t0 t4 t13 w) w
def s91_p20_den (K : Value → World → Prop) : (Nat → Value) → World → Prop := denL Try.prog [(cd (Try.f91.body.getD .skip) [1, 1, 1, 0, 0, 0])] (s91_p19_den K) (fun i => (bif Nat.beq i 0 then (s91_p1_den K) else (fun _ _ => False))) (s91_R K)
theorem s91_p20_ok (K : Value → World → Prop) (s : Nat → Value) (w : World) (h : s91_p20 K (s 0) (s 4) w) : Tr (s91_p20_den K s w) :=
  tr_simple (P := Try.prog) (codes := [(cd (Try.f91.body.getD .skip) [1, 1, 1, 0, 0, 0])]) (N := (fun s w => s91_p19 K (s 0) (s 4) (s 11) w)) (N' := (s91_p19_den K)) (X := (fun i => (bif Nat.beq i 0 then (fun s w => s91_p1 K w) else (fun _ _ => False)))) (X' := (fun i => (bif Nat.beq i 0 then (s91_p1_den K) else (fun _ _ => False)))) (R := s91_R K) (s := s) (w := w) (p := s91_p20 K (s 0) (s 4) w) (q := s91_p20_den K s w) (fun s w h => s91_p19_ok K s w @h) (fun i => (tr_bif (fun s w h => s91_p1_ok K s w @h) tr_id)) (by kernel_rfl) (by kernel_rfl) @h
def s91_p21 (K : Value → World → Prop) (t0 : Value) (w : World) : Prop :=
  lnS t0 (fun t6 w =>
  boI .eql t6 (.int .i64 0) (fun t7 w =>
  ifb t7
  (K (.tuple #[(.int .u32 0), (.int .i64 0)]) w)
  (ixs 1 t0 (.int .i64 0) (fun t9 w =>
  ld1 t9 (fun t10 w =>
  s91_p20 K t0 t10 w) w) w)) w) w
def s91_p21_den (K : Value → World → Prop) : (Nat → Value) → World → Prop := denL Try.prog [(cd (Try.f91.body.getD .skip) [0]), (cd (Try.f91.body.getD .skip) [1, 0, 0]), (cd (Try.f91.body.getD .skip) [1, 0, 1]), (cd (Try.f91.body.getD .skip) [1, 1, 0])] (s91_p20_den K) (fun i => (fun _ _ => False)) (s91_R K)
theorem s91_p21_ok (K : Value → World → Prop) (s : Nat → Value) (w : World) (h : s91_p21 K (s 0) w) : Tr (s91_p21_den K s w) :=
  tr_simple (P := Try.prog) (codes := [(cd (Try.f91.body.getD .skip) [0]), (cd (Try.f91.body.getD .skip) [1, 0, 0]), (cd (Try.f91.body.getD .skip) [1, 0, 1]), (cd (Try.f91.body.getD .skip) [1, 1, 0])]) (N := (fun s w => s91_p20 K (s 0) (s 4) w)) (N' := (s91_p20_den K)) (X := (fun i => (fun _ _ => False))) (X' := (fun i => (fun _ _ => False))) (R := s91_R K) (s := s) (w := w) (p := s91_p21 K (s 0) w) (q := s91_p21_den K s w) (fun s w h => s91_p20_ok K s w @h) (fun i => tr_id) (by kernel_rfl) (by kernel_rfl) @h
/-- the call, from the text -/
theorem c91 (t0 : Value) {K : Value → World → Prop} {w : World} (h : s91_p21 K t0 w) : cl Try.prog 91 #[t0] K w :=
  calls_of_tr (c := (Try.f91.body.getD .skip)) (fn := Try.f91) (q := s91_p21_den K (st0 #[t0]) w) Try.func91 (by kernel_rfl) (by kernel_rfl) (Nat.le_of_ble_eq_true (by kernel_rfl)) (by kernel_rfl) (by kernel_rfl) (s91_p21_ok K (st0 #[t0]) w @h)

/-! ### function 104 : e2e.octetsm.Scalars -/
def s104_R (K : Value → World → Prop) (s : Nat → Value) (w : World) : Prop := retv Try.prog s Try.f104.results.toList (fun vs => K (pack vs) w) w
def s104_p1 (K : Value → World → Prop) (t4 : Value) (w : World) : Prop :=
  K (.tuple #[t4, (.bool true)]) w
def s104_p1_den (K : Value → World → Prop) : (Nat → Value) → World → Prop := denL Try.prog [(cd (Try.f104.body.getD .skip) [1, 1, 1, 0]), (cd (Try.f104.body.getD .skip) [1, 1, 1, 1])] (fun _ _ => False) (fun i => (fun _ _ => False)) (s104_R K)
theorem s104_p1_ok (K : Value → World → Prop) (s : Nat → Value) (w : World) (h : s104_p1 K (s 4) w) : Tr (s104_p1_den K s w) :=
  tr_simple (P := Try.prog) (codes := [(cd (Try.f104.body.getD .skip) [1, 1, 1, 0]), (cd (Try.f104.body.getD .skip) [1, 1, 1, 1])]) (N := (fun _ _ => False)) (N' := (fun _ _ => False)) (X := (fun i => (fun _ _ => False))) (X' := (fun i => (fun _ _ => False))) (R := s104_R K) (s := s) (w := w) (p := s104_p1 K (s 4) w) (q := s104_p1_den K s w) tr_id (fun i => tr_id) (by kernel_rfl) (by kernel_rfl) @h
def s104_p2 (K : Value → World → Prop) (B1 : List Value → World → Prop) (t0 t4 t5 : Value) (w : World) : Prop :=
  boI .eql t5 (.int .i64 0) (fun t42 w =>
  ifb t42
  (K (.tuple #[(.slice none 0 0), (.bool false)]) w)
  (sls 1 t0 (some t5) none (fun t45 w =>
  B1 [t45, t4] w) w)) w
def s104_p2_den (K : Value → World → Prop) (M1 : (Nat → Value) → World → Prop) : (Nat → Value) → World → Prop := denL Try.prog [(cd (Try.f104.body.getD .skip) [1, 1, 0, 0, 0, 1, 0, 1, 1, 0, 0]), (cd (Try.f104.body.getD .skip) [1, 1, 0, 0, 0, 1, 0, 1, 1, 0, 1]), (cd (Try.f104.body.getD .skip) [1, 1, 0, 0, 0, 1, 0, 1, 1, 1])] M1 (fun i => (bif Nat.beq i 1 then M1 else (bif Nat.beq i 0 then (s104_p1_den K) else (fun _ _ => False)))) (s104_R K)
theorem s104_p2_ok (K : Value → World → Prop) (B1 : List Value → World → Prop) (s : Nat → Value) (w : World) (h : s104_p2 K B1 (s 0) (s 4) (s 5) w) : Tr (s104_p2_den K (fun s w => B1 [s 0, s 4] w) s w) :=
  tr_simple (P := Try.prog) (codes := [(cd (Try.f104.body.getD .skip) [1, 1, 0, 0, 0, 1, 0, 1, 1, 0, 0]), (cd (Try.f104.body.getD .skip) [1, 1, 0, 0, 0, 1, 0, 1, 1, 0, 1]), (cd (Try.f104.body.getD .skip) [1, 1, 0, 0, 0, 1, 0, 1, 1, 1])]) (N := (fun s w => B1 [s 0, s 4] w)) (N' := (fun s w => B1 [s 0, s 4] w)) (X := (fun i => (bif Nat.beq i 1 then (fun s w => B1 [s 0, s 4] w) else (bif Nat.beq i 0 then (fun s w => s104_p1 K (s 4) w) else (fun _ _ => False))))) (X' := (fun i => (bif Nat.beq i 1 then (fun s w => B1 [s 0, s 4] w) else (bif Nat.beq i 0 then (s104_p1_den K) else (fun _ _ => False))))) (R := s104_R K) (s := s) (w := w) (p := s104_p2 K B1 (s 0) (s 4) (s 5) w) (q := s104_p2_den K (fun s w => B1 [s 0, s 4] w) s w) tr_id (fun i => (tr_bif tr_id (tr_bif (fun s w h => s104_p1_ok K s w @h) tr_id))) (by kernel_rfl) (by kernel_rfl) @h
def s104_p3 (K : Value → World → Prop) (B1 : List Value → World → Prop) (B2 : List Value → World → Prop) (t0 t4 t5 t6 : Value) (w : World) : Prop :=
  boI .add t6 (.int .i64 1) (fun t21 w =>
  B2 [t0, t4, t5, t21] w) w
def s104_p3_den (K : Value → World → Prop) (M1 : (Nat → Value) → World → Prop) (M2 : (Nat → Value) → World → Prop) : (Nat → Value) → World → Prop := denL Try.prog [(cd (Try.f104.body.getD .skip) [1, 1, 0, 0, 0, 1, 0, 1, 0, 1, 0, 0, 1, 1])] M2 (fun i => (bif Nat.beq i 2 then (s104_p2_den K M1) else (bif Nat.beq i 1 then M1 else (bif Nat.beq i 0 then (s104_p1_den K) else (fun _ _ => False))))) (s104_R K)
theorem s104_p3_ok (K : Value → World → Prop) (B1 : List Value → World → Prop) (B2 : List Value → World → Prop) (s : Nat → Value) (w : World) (h : s104_p3 K B1 B2 (s 0) (s 4) (s 5) (s 6) w) : Tr (s104_p3_den K (fun s w => B1 [s 0, s 4] w) (fun s w => B2 [s 0, s 4, s 5, s 6] w) s w) :=
  tr_simple (P := Try.prog) (codes := [(cd (Try.f104.body.getD .skip) [1, 1, 0, 0, 0, 1, 0, 1, 0, 1, 0, 0, 1, 1])]) (N := (fun s w => B2 [s 0, s 4, s 5, s 6] w)) (N' := (fun s w => B2 [s 0, s 4, s 5, s 6] w)) (X := (fun i => (bif Nat.beq i 2 then (fun s w => s104_p2 K B1 (s 0) (s 4) (s 5) w) else (bif Nat.beq i 1 then (fun s w => B1 [s 0, s 4] w) else (bif Nat.beq i 0 then (fun s w => s104_p1 K (s 4) w) else (fun _ _ => False)))))) (X' := (fun i => (bif Nat.beq i 2 then (s104_p2_den K (fun s w => B1 [s 0, s 4] w)) else (bif Nat.beq i 1 then (fun s w => B1 [s 0, s 4] w) else (bif Nat.beq i 0 then (s104_p1_den K) else (fun _ _ => False)))))) (R := s104_R K) (s := s) (w := w) (p := s104_p3 K B1 B2 (s 0) (s 4) (s 5) (s 6) w) (q := s104_p3_den K (fun s w => B1 [s 0, s 4] w) (fun s w => B2 [s 0, s 4, s 5, s 6] w) s w) tr_id (fun i => (tr_bif (fun s w h => s104_p2_ok K B1 s w @h) (tr_bif tr_id (tr_bif (fun s w h => s104_p1_ok K s w @h) tr_id)))) (by kernel_rfl) (by kernel_rfl) @h
def s104_p4 (K : Value → World → Prop) (B1 : List Value → World → Prop) (B2 : List Value → World → Prop) (t0 t4 t5 t6 t7 t35 : Value) (w : World) : Prop :=
  ifb t35
  (bsq 3 [(.int .i64 0)] 1 [(some (0, 1), t7)] (fun t38 w =>
  apq 3 [(.int .i64 0)] 8 t4 t38 (fun t39 w =>
  s104_p3 K B1 B2 t0 t39 t6 t6 w) w) w)
  (s104_p3 K B1 B2 t0 t4 t5 t6 w)
def s104_p4_den (K : Value → World → Prop) (M1 : (Nat → Value) → World → Prop) (M2 : (Nat → Value) → World → Prop) : (Nat → Value) → World → Prop := denL Try.prog [(cd (Try.f104.body.getD .skip) [1, 1, 0, 0, 0, 1, 0, 1, 0, 1, 0, 0, 1, 0, 0, 1, 1])] (s104_p3_den K M1 M2) (fun i => (bif Nat.beq i 3 then (s104_p3_den K M1 M2) else (bif Nat.beq i 2 then (s104_p2_den K M1) else (bif Nat.beq i 1 then M1 else (bif Nat.beq i 0 then (s104_p1_den K) else (fun _ _ => False)))))) (s104_R K)
theorem s104_p4_ok (K : Value → World → Prop) (B1 : List Value → World → Prop) (B2 : List Value → World → Prop) (s : Nat → Value) (w : World) (h : s104_p4 K B1 B2 (s 0) (s 4) (s 5) (s 6) (s 7) (s 35) w) : Tr (s104_p4_den K (fun s w => B1 [s 0, s 4] w) (fun s w => B2 [s 0, s 4, s 5, s 6] w) s w) :=
  tr_simple (P := Try.prog) (codes := [(cd (Try.f104.body.getD .skip) [1, 1, 0, 0, 0, 1, 0, 1, 0, 1, 0, 0, 1, 0, 0, 1, 1])]) (N := (fun s w => s104_p3 K B1 B2 (s 0) (s 4) (s 5) (s 6) w)) (N' := (s104_p3_den K (fun s w => B1 [s 0, s 4] w) (fun s w => B2 [s 0, s 4, s 5, s 6] w))) (X := (fun i => (bif Nat.beq i 3 then (fun s w => s104_p3 K B1 B2 (s 0) (s 4) (s 5) (s 6) w) else (bif Nat.beq i 2 then (fun s w => s104_p2 K B1 (s 0) (s 4) (s 5) w) else (bif Nat.beq i 1 then (fun s w => B1 [s 0, s 4] w) else (bif Nat.beq i 0 then (fun s w => s104_p1 K (s 4) w) else (fun _ _ => False))))))) (X' := (fun i => (bif Nat.beq i 3 then (s104_p3_den K (fun s w => B1 [s 0, s 4] w) (fun s w => B2 [s 0, s 4, s 5, s 6] w)) else (bif Nat.beq i 2 then (s104_p2_den K (fun s w => B1 [s 0, s 4] w)) else (bif Nat.beq i 1 then (fun s w => B1 [s 0, s 4] w) else (bif Nat.beq i 0 then (s104_p1_den K) else (fun _ _ => False))))))) (R := s104_R K) (s := s) (w := w) (p := s104_p4 K B1 B2 (s 0) (s 4) (s 5) (s 6) (s 7) (s 35) w) (q := s104_p4_den K (fun s w => B1 [s 0, s 4] w) (fun s w => B2 [s 0, s 4, s 5, s 6] w) s w) (fun s w h => s104_p3_ok K B1 B2 s w @h) (fun i => (tr_bif (fun s w h => s104_p3_ok K B1 B2 s w @h) (tr_bif (fun s w h => s104_p2_ok K B1 s w @h) (tr_bif tr_id (tr_bif (fun s w h => s104_p1_ok K s w @h) tr_id))))) (by kernel_rfl) (by kernel_rfl) @h
def s104_p5_d (K : Value → World → Prop) (B1 : List Value → World → Prop) (B2 : List Value → World → Prop) (t0 t4 t5 t6 t7 : Value) (w : World) : Prop :=
  cl Try.prog 30 #[t7] (fun t27 w =>
  (gd t27 true (fun K w => K t7 w) (fun t29 w =>
  (gd t27 true (cl Try.prog 29 #[t29]) (fun t30 w =>
  (gd t27 true (fun K w => K t0 w) (fun t31 w =>
  gd t27 true (fun K w => K t6 w) (fun t32 w =>
  gd t27 true (sls 1 t31 none (some t32)) (fun t33 w =>
  gd t27 true (cl Try.prog 18 #[t30, t33]) (fun t34 w =>
  pk t27 t34 (.bool false) (fun t35 w =>
  s104_p4 K B1 B2 t0 t4 t5 t6 t7 t35 w) w) w) w) w) w) ∧
  (gd t27 true (fun K w => K t6 w) (fun t32_2 w =>
  gd t27 true (fun K w => K t0 w) (fun t31_2 w =>
  gd t27 true (sls 1 t31_2 none (some t32_2)) (fun t33_2 w =>
  gd t27 true (cl Try.prog 18 #[t30, t33_2]) (fun t34_2 w =>
  pk t27 t34_2 (.bool false) (fun t35_2 w =>
  s104_p4 K B1 B2 t0 t4 t5 t6 t7 t35_2 w) w) w) w) w) w)) w) ∧
  (gd t27 true (fun K w => K t0 w) (fun t31_3 w =>
  (gd t27 true (cl Try.prog 29 #[t29]) (fun t30_2 w =>
  gd t27 true (fun K w => K t6 w) (fun t32_3 w =>
  gd t27 true (sls 1 t31_3 none (some t32_3)) (fun t33_3 w =>
  gd t27 true (cl Try.prog 18 #[t30_2, t33_3]) (fun t34_3 w =>
  pk t27 t34_3 (.bool false) (fun t35_3 w =>
  s104_p4 K B1 B2 t0 t4 t5 t6 t7 t35_3 w) w) w) w) w) w) ∧
  (gd t27 true (fun K w => K t6 w) (fun t32_4 w =>
  (gd t27 true (cl Try.prog 29 #[t29]) (fun t30_3 w =>
  gd t27 true (sls 1 t31_3 none (some t32_4)) (fun t33_4 w =>
  gd t27 true (cl Try.prog 18 #[t30_3, t33_4]) (fun t34_4 w =>
  pk t27 t34_4 (.bool false) (fun t35_4 w =>
  s104_p4 K B1 B2 t0 t4 t5 t6 t7 t35_4 w) w) w) w) w) ∧
  (gd t27 true (sls 1 t31_3 none (some t32_4)) (fun t33_5 w =>
  gd t27 true (cl Try.prog 29 #[t29]) (fun t30_4 w =>
  gd t27 true (cl Try.prog 18 #[t30_4, t33_5]) (fun t34_5 w =>
  pk t27 t34_5 (.bool false) (fun t35_5 w =>
  s104_p4 K B1 B2 t0 t4 t5 t6 t7 t35_5 w) w) w) w) w)) w)) w) ∧
  (gd t27 true (fun K w => K t6 w) (fun t32_5 w =>
  (gd t27 true (cl Try.prog 29 #[t29]) (fun t30_5 w =>
  gd t27 true (fun K w => K t0 w) (fun t31_4 w =>
  gd t27 true (sls 1 t31_4 none (some t32_5)) (fun t33_6 w =>
  gd t27 true (cl Try.prog 18 #[t30_5, t33_6]) (fun t34_6 w =>
  pk t27 t34_6 (.bool false) (fun t35_6 w =>
  s104_p4 K B1 B2 t0 t4 t5 t6 t7 t35_6 w) w) w) w) w) w) ∧
  (gd t27 true (fun K w => K t0 w) (fun t31_5 w =>
  (gd t27 true (cl Try.prog 29 #[t29]) (fun t30_6 w =>
  gd t27 true (sls 1 t31_5 none (some t32_5)) (fun t33_7 w =>
  gd t27 true (cl Try.prog 18 #[t30_6, t33_7]) (fun t34_7 w =>
  pk t27 t34_7 (.bool false) (fun t35_7 w =>
  s104_p4 K B1 B2 t0 t4 t5 t6 t7 t35_7 w) w) w) w) w) ∧
  (gd t27 true (sls 1 t31_5 none (some t32_5)) (fun t33_8 w =>
  gd t27 true (cl Try.prog 29 #[t29]) (fun t30_7 w =>
  gd t27 true (cl Try.prog 18 #[t30_7, t33_8]) (fun t34_8 w =>
  pk t27 t34_8 (.bool false) (fun t35_8 w =>
  s104_p4 K B1 B2 t0 t4 t5 t6 t7 t35_8 w) w) w) w) w)) w)) w)) w) ∧
  (gd t27 true (fun K w => K t0 w) (fun t31_6 w =>
  (gd t27 true (fun K w => K t7 w) (fun t29_2 w =>
  (gd t27 true (cl Try.prog 29 #[t29_2]) (fun t30_8 w =>
  gd t27 true (fun K w => K t6 w) (fun t32_6 w =>
  gd t27 true (sls 1 t31_6 none (some t32_6)) (fun t33_9 w =>
  gd t27 true (cl Try.prog 18 #[t30_8, t33_9]) (fun t34_9 w =>
  pk t27 t34_9 (.bool false) (fun t35_9 w =>
  s104_p4 K B1 B2 t0 t4 t5 t6 t7 t35_9 w) w) w) w) w) w) ∧
  (gd t27 true (fun K w => K t6 w) (fun t32_7 w =>
  (gd t27 true (cl Try.prog 29 #[t29_2]) (fun t30_9 w =>
  gd t27 true (sls 1 t31_6 none (some t32_7)) (fun t33_10 w =>
  gd t27 true (cl Try.prog 18 #[t30_9, t33_10]) (fun t34_10 w =>
  pk t27 t34_10 (.bool false) (fun t35_10 w =>
  s104_p4 K B1 B2 t0 t4 t5 t6 t7 t35_10 w) w) w) w) w) ∧
  (gd t27 true (sls 1 t31_6 none (some t32_7)) (fun t33_11 w =>
  gd t27 true (cl Try.prog 29 #[t29_2]) (fun t30_10 w =>
  gd t27 true (cl Try.prog 18 #[t30_10, t33_11]) (fun t34_11 w =>
  pk t27 t34_11 (.bool false) (fun t35_11 w =>
  s104_p4 K B1 B2 t0 t4 t5 t6 t7 t35_11 w) w) w) w) w)) w)) w) ∧
  (gd t27 true (fun K w => K t6 w) (fun t32_8 w =>
  (gd t27 true (fun K w => K t7 w) (fun t29_3 w =>
  (gd t27 true (cl Try.prog 29 #[t29_3]) (fun t30_11 w =>
  gd t27 true (sls 1 t31_6 none (some t32_8)) (fun t33_12 w =>
  gd t27 true (cl Try.prog 18 #[t30_11, t33_12]) (fun t34_12 w =>
  pk t27 t34_12 (.bool false) (fun t35_12 w =>
  s104_p4 K B1 B2 t0 t4 t5 t6 t7 t35_12 w) w) w) w) w) ∧
  (gd t27 true (sls 1 t31_6 none (some t32_8)) (fun t33_13 w =>
  gd t27 true (cl Try.prog 29 #[t29_3]) (fun t30_12 w =>
  gd t27 true (cl Try.prog 18 #[t30_12, t33_13]) (fun t34_13 w =>
  pk t27 t34_13 (.bool false) (fun t35_13 w =>
  s104_p4 K B1 B2 t0 t4 t5 t6 t7 t35_13 w) w) w) w) w)) w) ∧
  (gd t27 true (sls 1 t31_6 none (some t32_8)) (fun t33_14 w =>
  gd t27 true (fun K w => K t7 w) (fun t29_4 w =>
  gd t27 true (cl Try.prog 29 #[t29_4]) (fun t30_13 w =>
  gd t27 true (cl Try.prog 18 #[t30_13, t33_14]) (fun t34_14 w =>
  pk t27 t34_14 (.bool false) (fun t35_14 w =>
  s104_p4 K B1 B2 t0 t4 t5 t6 t7 t35_14 w) w) w) w) w) w)) w)) w) ∧
  (gd t27 true (fun K w => K t6 w) (fun t32_9 w =>
  (gd t27 true (fun K w => K t7 w) (fun t29_5 w =>
  (gd t27 true (cl Try.prog 29 #[t29_5]) (fun t30_14 w =>
  gd t27 true (fun K w => K t0 w) (fun t31_7 w =>
  gd t27 true (sls 1 t31_7 none (some t32_9)) (fun t33_15 w =>
  gd t27 true (cl Try.prog 18 #[t30_14, t33_15]) (fun t34_15 w =>
  pk t27 t34_15 (.bool false) (fun t35_15 w =>
  s104_p4 K B1 B2 t0 t4 t5 t6 t7 t35_15 w) w) w) w) w) w) ∧
  (gd t27 true (fun K w => K t0 w) (fun t31_8 w =>
  (gd t27 true (cl Try.prog 29 #[t29_5]) (fun t30_15 w =>
  gd t27 true (sls 1 t31_8 none (some t32_9)) (fun t33_16 w =>
  gd t27 true (cl Try.prog 18 #[t30_15, t33_16]) (fun t34_16 w =>
  pk t27 t34_16 (.bool false) (fun t35_16 w =>
  s104_p4 K B1 B2 t0 t4 t5 t6 t7 t35_16 w) w) w) w) w) ∧
  (gd t27 true (sls 1 t31_8 none (some t32_9)) (fun t33_17 w =>
  gd t27 true (cl Try.prog 29 #[t29_5]) (fun t30_16 w =>
  gd t27 true (cl Try.prog 18 #[t30_16, t33_17]) (fun t34_17 w =>
  pk t27 t34_17 (.bool false) (fun t35_17 w =>
  s104_p4 K B1 B2 t0 t4 t5 t6 t7 t35_17 w) w) w) w) w)) w)) w) ∧
  (gd t27 true (fun K w => K t0 w) (fun t31_9 w =>
  (gd t27 true (fun K w => K t7 w) (fun t29_6 w =>
  (gd t27 true (cl Try.prog 29 #[t29_6]) (fun t30_17 w =>
  gd t27 true (sls 1 t31_9 none (some t32_9)) (fun t33_18 w =>
  gd t27 true (cl Try.prog 18 #[t30_17, t33_18]) (fun t34_18 w =>
  pk t27 t34_18 (.bool false) (fun t35_18 w =>
  s104_p4 K B1 B2 t0 t4 t5 t6 t7 t35_18 w) w) w) w) w) ∧
  (gd t27 true (sls 1 t31_9 none (some t32_9)) (fun t33_19 w =>
  gd t27 true (cl Try.prog 29 #[t29_6]) (fun t30_18 w =>
  gd t27 true (cl Try.prog 18 #[t30_18, t33_19]) (fun t34_19 w =>
  pk t27 t34_19 (.bool false) (fun t35_19 w =>
  s104_p4 K B1 B2 t0 t4 t5 t6 t7 t35_19 w) w) w) w) w)) w) ∧
  (gd t27 true (sls 1 t31_9 none (some t32_9)) (fun t33_20 w =>
  gd t27 true (fun K w => K t7 w) (fun t29_7 w =>
  gd t27 true (cl Try.prog 29 #[t29_7]) (fun t30_19 w =>
  gd t27 true (cl Try.prog 18 #[t30_19, t33_20]) (fun t34_20 w =>
  pk t27 t34_20 (.bool false) (fun t35_20 w =>
  s104_p4 K B1 B2 t0 t4 t5 t6 t7 t35_20 w) w) w) w) w) w)) w)) w)) w
def s104_p5 (K : Value → World → Prop) (B1 : List Value → World → Prop) (B2 : List Value → World → Prop) (t0 t4 t5 t6 t7 : Value) (w : World) : Prop := s104_p5_d K B1 B2 t0 t4 t5 t6 t7 (drw w)
def s104_p5_den (K : Value → World → Prop) (M1 : (Nat → Value) → World → Prop) (M2 : (Nat → Value) → World → Prop) : (Nat → Value) → World → Prop := denL Try.prog [(cd (Try.f104.body.getD .skip) [1, 1, 0, 0, 0, 1, 0, 1, 0, 1, 0, 0, 1, 0, 0, 1, 0])] (s104_p4_den K M1 M2) (fun i => (bif Nat.beq i 3 then (s104_p3_den K M1 M2) else (bif Nat.beq i 2 then (s104_p2_den K M1) else (bif Nat.beq i 1 then M1 else (bif Nat.beq i 0 then (s104_p1_den K) else (fun _ _ => False)))))) (s104_R K)
theorem s104_p5_ok (K : Value → World → Prop) (B1 : List Value → World → Prop) (B2 : List Value → World → Prop) (s : Nat → Value) (w : World) (h : s104_p5 K B1 B2 (s 0) (s 4) (s 5) (s 6) (s 7) w) : Tr (s104_p5_den K (fun s w => B1 [s 0, s 4] w) (fun s w => B2 [s 0, s 4, s 5, s 6] w) s w) :=
  tr_draw (P := Try.prog) (ops := (ro (cd (Try.f104.body.getD .skip) [1, 1, 0, 0, 0, 1, 0, 1, 0, 1, 0, 0, 1, 0, 0, 1, 0]))) (ms := [0, 1, 3, 7, 15, 7, 7, 103, 255, 511]) (cs := [0]) (N := (fun s w => s104_p4 K B1 B2 (s 0) (s 4) (s 5) (s 6) (s 7) (s 35) w)) (N' := (s104_p4_den K (fun s w => B1 [s 0, s 4] w) (fun s w => B2 [s 0, s 4, s 5, s 6] w))) (s := s) (w := w) (p := s104_p5 K B1 B2 (s 0) (s 4) (s 5) (s 6) (s 7) w) (q := s104_p5_den K (fun s w => B1 [s 0, s 4] w) (fun s w => B2 [s 0, s 4, s 5, s 6] w) s w) (by kernel_rfl) (by kernel_rfl) (fun s w h => s104_p4_ok K B1 B2 s w @h) (by kernel_rfl) (by kernel_rfl) @h
def s104_p6 (K : Value → World → Prop) (B1 : List Value → World → Prop) (B2 : List Value → World → Prop) (t0 t4 t5 t6 : Value) (w : World) : Prop :=
  sls 1 t0 none (some t6) (fun t24 w =>
  cl Try.prog 106 #[t24] (fun t25 w =>
  s104_p5 K B1 B2 t0 t4 t5 t6 t25 w) w) w
def s104_p6_den (K : Value → World → Prop) (M1 : (Nat → Value) → World → Prop) (M2 : (Nat → Value) → World → Prop) : (Nat → Value) → World → Prop := denL Try.prog [(cd (Try.f104.body.getD .skip) [1, 1, 0, 0, 0, 1, 0, 1, 0, 1, 0, 0, 1, 0, 0, 0])] (s104_p5_den K M1 M2) (fun i => (bif Nat.beq i 3 then (s104_p3_den K M1 M2) else (bif Nat.beq i 2 then (s104_p2_den K M1) else (bif Nat.beq i 1 then M1 else (bif Nat.beq i 0 then (s104_p1_den K) else (fun _ _ => False)))))) (s104_R K)
theorem s104_p6_ok (K : Value → World → Prop) (B1 : List Value → World → Prop) (B2 : List Value → World → Prop) (s : Nat → Value) (w : World) (h : s104_p6 K B1 B2 (s 0) (s 4) (s 5) (s 6) w) : Tr (s104_p6_den K (fun s w => B1 [s 0, s 4] w) (fun s w => B2 [s 0, s 4, s 5, s 6] w) s w) :=
  tr_simple (P := Try.prog) (codes := [(cd (Try.f104.body.getD .skip) [1, 1, 0, 0, 0, 1, 0, 1, 0, 1, 0, 0, 1, 0, 0, 0])]) (N := (fun s w => s104_p5 K B1 B2 (s 0) (s 4) (s 5) (s 6) (s 7) w)) (N' := (s104_p5_den K (fun s w => B1 [s 0, s 4] w) (fun s w => B2 [s 0, s 4, s 5, s 6] w))) (X := (fun i => (bif Nat.beq i 3 then (fun s w => s104_p3 K B1 B2 (s 0) (s 4) (s 5) (s 6) w) else (bif Nat.beq i 2 then (fun s w => s104_p2 K B1 (s 0) (s 4) (s 5) w) else (bif Nat.beq i 1 then (fun s w => B1 [s 0, s 4] w) else (bif Nat.beq i 0 then (fun s w => s104_p1 K (s 4) w) else (fun _ _ => False))))))) (X' := (fun i => (bif Nat.beq i 3 then (s104_p3_den K (fun s w => B1 [s 0, s 4] w) (fun s w => B2 [s 0, s 4, s 5, s 6] w)) else (bif Nat.beq i 2 then (s104_p2_den K (fun s w => B1 [s 0, s 4] w)) else (bif Nat.beq i 1 then (fun s w => B1 [s 0, s 4] w) else (bif Nat.beq i 0 then (s104_p1_den K) else (fun _ _ => False))))))) (R := s104_R K) (s := s) (w := w) (p := s104_p6 K B1 B2 (s 0) (s 4) (s 5) (s 6) w) (q := s104_p6_den K (fun s w => B1 [s 0, s 4] w) (fun s w => B2 [s 0, s 4, s 5, s 6] w) s w) (fun s w h => s104_p5_ok K B1 B2 s w @h) (fun i => (tr_bif (fun s w h => s104_p3_ok K B1 B2 s w @h) (tr_bif (fun s w h => s104_p2_ok K B1 s w @h) (tr_bif tr_id (tr_bif (fun s w h => s104_p1_ok K s w @h) tr_id))))) (by kernel_rfl) (by kernel_rfl) @h
def s104_p7 (K : Value → World → Prop) (B1 : List Value → World → Prop) (B2 : List Value → World → Prop) (t0 t4 t5 t6 : Value) (w : World) : Prop :=
  boI .leq t6 (.int .i64 4) (fun t13 w =>
  gd t13 true (fun K w => K t6 w) (fun t15 w =>
  gd t13 true (fun K w => K t0 w) (fun t16 w =>
  gd t13 true (lnS t16) (fun t17 w =>
  gd t13 true (boI .leq t15 t17) (fun t18 w =>
  pk t13 t18 (.bool false) (fun t19 w =>
  ifb t19
  (s104_p6 K B1 B2 t0 t4 t5 t6 w)
  (s104_p2 K B1 t0 t4 t5 w)) w) w) w) w) w) w
def s104_p7_den (K : Value → World → Prop) (M1 : (Nat → Value) → World → Prop) (M2 : (Nat → Value) → World → Prop) : (Nat → Value) → World → Prop := denL Try.prog [(cd (Try.f104.body.getD .skip) [1, 1, 0, 0, 0, 1, 0, 1, 0, 1, 0, 0, 0, 0]), (cd (Try.f104.body.getD .skip) [1, 1, 0, 0, 0, 1, 0, 1, 0, 1, 0, 0, 0, 1])] (s104_p6_den K M1 M2) (fun i => (bif Nat.beq i 2 then (s104_p2_den K M1) else (bif Nat.beq i 1 then M1 else (bif Nat.beq i 0 then (s104_p1_den K) else (fun _ _ => False))))) (s104_R K)
theorem s104_p7_ok (K : Value → World → Prop) (B1 : List Value → World → Prop) (B2 : List Value → World → Prop) (s : Nat → Value) (w : World) (h : s104_p7 K B1 B2 (s 0) (s 4) (s 5) (s 6) w) : Tr (s104_p7_den K (fun s w => B1 [s 0, s 4] w) (fun s w => B2 [s 0, s 4, s 5, s 6] w) s w) :=
  tr_simple (P := Try.prog) (codes := [(cd (Try.f104.body.getD .skip) [1, 1, 0, 0, 0, 1, 0, 1, 0, 1, 0, 0, 0, 0]), (cd (Try.f104.body.getD .skip) [1, 1, 0, 0, 0, 1, 0, 1, 0, 1, 0, 0, 0, 1])]) (N := (fun s w => s104_p6 K B1 B2 (s 0) (s 4) (s 5) (s 6) w)) (N' := (s104_p6_den K (fun s w => B1 [s 0, s 4] w) (fun s w => B2 [s 0, s 4, s 5, s 6] w))) (X := (fun i => (bif Nat.beq i 2 then (fun s w => s104_p2 K B1 (s 0) (s 4) (s 5) w) else (bif Nat.beq i 1 then (fun s w => B1 [s 0, s 4] w) else (bif Nat.beq i 0 then (fun s w => s104_p1 K (s 4) w) else (fun _ _ => False)))))) (X' := (fun i => (bif Nat.beq i 2 then (s104_p2_den K (fun s w => B1 [s 0, s 4] w)) else (bif Nat.beq i 1 then (fun s w => B1 [s 0, s 4] w) else (bif Nat.beq i 0 then (s104_p1_den K) else (fun _ _ => False)))))) (R := s104_R K) (s := s) (w := w) (p := s104_p7 K B1 B2 (s 0) (s 4) (s 5) (s 6) w) (q := s104_p7_den K (fun s w => B1 [s 0, s 4] w) (fun s w => B2 [s 0, s 4, s 5, s 6] w) s w) (fun s w h => s104_p6_ok K B1 B2 s w @h) (fun i => (tr_bif (fun s w h => s104_p2_ok K B1 s w @h) (tr_bif tr_id (tr_bif (fun s w h => s104_p1_ok K s w @h) tr_id)))) (by kernel_rfl) (by kernel_rfl) @h
def s104_p8_F (K : Value → World → Prop) (B1 : List Value → World → Prop) (B2 : List Value → World → Prop) (l : List Value) (w : World) : Prop :=
  match l with
  | [t0, t4, t5, t6] => s104_p7 K B1 B2 t0 t4 t5 t6 w
  | _ => False
theorem s104_p8_Fe {K : Value → World → Prop} {B1 : List Value → World → Prop} {B2 : List Value → World → Prop} {t0 t4 t5 t6 : Value} {w : World} : s104_p8_F K B1 B2 [t0, t4, t5, t6] w = s104_p7 K B1 B2 t0 t4 t5 t6 w := by kernel_rfl
def s104_p8 (K : Value → World → Prop) (B1 : List Value → World → Prop) (t0 t4 t5 t6 : Value) (w : World) : Prop :=
  LoopL (s104_p8_F K B1) [t0, t4, t5, t6] w
def s104_p8_den (K : Value → World → Prop) (M1 : (Nat → Value) → World → Prop) : (Nat → Value) → World → Prop := fun s w => LoopP (fun M2 s w => s104_p7_den K M1 M2 s w) s w
theorem s104_p8_ok (K : Value → World → Prop) (B1 : List Value → World → Prop) (s : Nat → Value) (w : World) (h : s104_p8 K B1 (s 0) (s 4) (s 5) (s 6) w) : Tr (s104_p8_den K (fun s w => B1 [s 0, s 4] w) s w) :=
  tr_loop (G := fun N' s w => s104_p7_den K (fun s w => B1 [s 0, s 4] w) N' s w) (F := s104_p8_F K B1) (sel := fun s => [s 0, s 4, s 5, s 6]) (s := s) (w := w) (p := s104_p8 K B1 (s 0) (s 4) (s 5) (s 6) w) (q := s104_p8_den K (fun s w => B1 [s 0, s 4] w) s w) (fun B s w h => s104_p7_ok K B1 B s w @h) (by kernel_rfl) (by kernel_rfl) @h
def s104_p9 (K : Value → World → Prop) (B1 : List Value → World → Prop) (t0 t4 : Value) (w : World) : Prop :=
  s104_p8 K B1 t0 t4 (.int .i64 0) (.int .i64 1) w
def s104_p9_den (K : Value → World → Prop) (M1 : (Nat → Value) → World → Prop) : (Nat → Value) → World → Prop := denL Try.prog [(cd (Try.f104.body.getD .skip) [1, 1, 0, 0, 0, 1, 0, 0]), (cd (Try.f104.body.getD .skip) [1, 1, 0, 0, 0, 1, 0, 1, 0, 0])] (s104_p8_den K M1) (fun i => (bif Nat.beq i 1 then M1 else (bif Nat.beq i 0 then (s104_p1_den K) else (fun _ _ => False)))) (s104_R K)
theorem s104_p9_ok (K : Value → World → Prop) (B1 : List Value → World → Prop) (s : Nat → Value) (w : World) (h : s104_p9 K B1 (s 0) (s 4) w) : Tr (s104_p9_den K (fun s w => B1 [s 0, s 4] w) s w) :=
  tr_simple (P := Try.prog) (codes := [(cd (Try.f104.body.getD .skip) [1, 1, 0, 0, 0, 1, 0, 0]), (cd (Try.f104.body.getD .skip) [1, 1, 0, 0, 0, 1, 0, 1, 0, 0])]) (N := (fun s w => s104_p8 K B1 (s 0) (s 4) (s 5) (s 6) w)) (N' := (s104_p8_den K (fun s w => B1 [s 0, s 4] w))) (X := (fun i => (bif Nat.beq i 1 then (fun s w => B1 [s 0, s 4] w) else (bif Nat.beq i 0 then (fun s w => s104_p1 K (s 4) w) else (fun _ _ => False))))) (X' := (fun i => (bif Nat.beq i 1 then (fun s w => B1 [s 0, s 4] w) else (bif Nat.beq i 0 then (s104_p1_den K) else (fun _ _ => False))))) (R := s104_R K) (s := s) (w := w) (p := s104_p9 K B1 (s 0) (s 4) w) (q := s104_p9_den K (fun s w => B1 [s 0, s 4] w) s w) (fun s w h => s104_p8_ok K B1 s w @h) (fun i => (tr_bif tr_id (tr_bif (fun s w h => s104_p1_ok K s w @h) tr_id))) (by kernel_rfl) (by kernel_rfl) @h
def s104_p10 (K : Value → World → Prop) (B1 : List Value → World → Prop) (t0 t4 : Value) (w : World) : Prop :=
  lnS t0 (fun t10 w =>
  boI .gtr t10 (.int .i64 0) (fun t11 w =>
  ifb t11
  (s104_p9 K B1 t0 t4 w)
  (s104_p1 K t4 w)) w) w
def s104_p10_den (K : Value → World → Prop) (M1 : (Nat → Value) → World → Prop) : (Nat → Value) → World → Prop := denL Try.prog [(cd (Try.f104.body.getD .skip) [1, 1, 0, 0, 0, 0, 0]), (cd (Try.f104.body.getD .skip) [1, 1, 0, 0, 0, 0, 1])] (s104_p9_den K M1) (fun i => (bif Nat.beq i 0 then (s104_p1_den K) else (fun _ _ => False))) (s104_R K)
theorem s104_p10_ok (K : Value → World → Prop) (B1 : List Value → World → Prop) (s : Nat → Value) (w : World) (h : s104_p10 K B1 (s 0) (s 4) w) : Tr (s104_p10_den K (fun s w => B1 [s 0, s 4] w) s w) :=
  tr_simple (P := Try.prog) (codes := [(cd (Try.f104.body.getD .skip) [1, 1, 0, 0, 0, 0, 0]), (cd (Try.f104.body.getD .skip) [1, 1, 0, 0, 0, 0, 1])]) (N := (fun s w => s104_p9 K B1 (s 0) (s 4) w)) (N' := (s104_p9_den K (fun s w => B1 [s 0, s 4] w))) (X := (fun i => (bif Nat.beq i 0 then (fun s w => s104_p1 K (s 4) w) else (fun _ _ => False)))) (X' := (fun i => (bif Nat.beq i 0 then (s104_p1_den K) else (fun _ _ => False)))) (R := s104_R K) (s := s) (w := w) (p := s104_p10 K B1 (s 0) (s 4) w) (q := s104_p10_den K (fun s w => B1 [s 0, s 4] w) s w) (fun s w h => s104_p9_ok K B1 s w @h) (fun i => (tr_bif (fun s w h => s104_p1_ok K s w @h) tr_id)) (by kernel_rfl) (by kernel_rfl) @h
def s104_p11_F (K : Value → World → Prop) (B1 : List Value → World → Prop) (l : List Value) (w : World) : Prop :=
  match l with
  | [t0, t4] => s104_p10 K B1 t0 t4 w
  | _ => False
theorem s104_p11_Fe {K : Value → World → Prop} {B1 : List Value → World → Prop} {t0 t4 : Value} {w : World} : s104_p11_F K B1 [t0, t4] w = s104_p10 K B1 t0 t4 w := by kernel_rfl
def s104_p11 (K : Value → World → Prop) (t0 t4 : Value) (w : World) : Prop :=
  LoopL (s104_p11_F K) [t0, t4] w
def s104_p11_den (K : Value → World → Prop) : (Nat → Value) → World → Prop := fun s w => LoopP (fun M1 s w => s104_p10_den K M1 s w) s w
theorem s104_p11_ok (K : Value → World → Prop) (s : Nat → Value) (w : World) (h : s104_p11 K (s 0) (s 4) w) : Tr (s104_p11_den K s w) :=
  tr_loop (G := fun N' s w => s104_p10_den K N' s w) (F := s104_p11_F K) (sel := fun s => [s 0, s 4]) (s := s) (w := w) (p := s104_p11 K (s 0) (s 4) w) (q := s104_p11_den K s w) (fun B s w h => s104_p10_ok K B s w @h) (by kernel_rfl) (by kernel_rfl) @h
def s104_p12 (K : Value → World → Prop) (t0 : Value) (w : World) : Prop :=
  bsq 3 [(.int .i64 0)] 0 [] (fun t8 w =>
  s104_p11 K t0 t8 w) w
def s104_p12_den (K : Value → World → Prop) : (Nat → Value) → World → Prop := denL Try.prog [(cd (Try.f104.body.getD .skip) [0]), (cd (Try.f104.body.getD .skip) [1, 0])] (s104_p11_den K) (fun i => (fun _ _ => False)) (s104_R K)
theorem s104_p12_ok (K : Value → World → Prop) (s : Nat → Value) (w : World) (h : s104_p12 K (s 0) w) : Tr (s104_p12_den K s w) :=
  tr_simple (P := Try.prog) (codes := [(cd (Try.f104.body.getD .skip) [0]), (cd (Try.f104.body.getD .skip) [1, 0])]) (N := (fun s w => s104_p11 K (s 0) (s 4) w)) (N' := (s104_p11_den K)) (X := (fun i => (fun _ _ => False))) (X' := (fun i => (fun _ _ => False))) (R := s104_R K) (s := s) (w := w) (p := s104_p12 K (s 0) w) (q := s104_p12_den K s w) (fun s w h => s104_p11_ok K s w @h) (fun i => tr_id) (by kernel_rfl) (by kernel_rfl) @h
/-- the call, from the text -/
theorem c104 (t0 : Value) {K : Value → World → Prop} {w : World} (h : s104_p12 K t0 w) : cl Try.prog 104 #[t0] K w :=
  calls_of_tr (c := (Try.f104.body.getD .skip)) (fn := Try.f104) (q := s104_p12_den K (st0 #[t0]) w) Try.func104 (by kernel_rfl) (by kernel_rfl) (Nat.le_of_ble_eq_true (by kernel_rfl)) (by kernel_rfl) (by kernel_rfl) (s104_p12_ok K (st0 #[t0]) w @h)

/-! ### function 105 : e2e.octets.tail -/
def s105_R (K : Value → World → Prop) (s : Nat → Value) (w : World) : Prop := retv Try.prog s Try.f105.results.toList (fun vs => K (pack vs) w) w
def s105_p1 (K : Value → World → Prop) (t0 : Value) (w : World) : Prop :=
  boI .and t0 (.int .u8 192) (fun t4 w =>
  boI .eql t4 (.int .u8 128) (fun t5 w =>
  K t5 w) w) w
def s105_p1_den (K : Value → World → Prop) : (Nat → Value) → World → Prop := denL Try.prog [(cd (Try.f105.body.getD .skip) [0]), (cd (Try.f105.body.getD .skip) [1, 0]), (cd (Try.f105.body.getD .skip) [1, 1])] (fun _ _ => False) (fun i => (fun _ _ => False)) (s105_R K)
theorem s105_p1_ok (K : Value → World → Prop) (s : Nat → Value) (w : World) (h : s105_p1 K (s 0) w) : Tr (s105_p1_den K s w) :=
  tr_simple (P := Try.prog) (codes := [(cd (Try.f105.body.getD .skip) [0]), (cd (Try.f105.body.getD .skip) [1, 0]), (cd (Try.f105.body.getD .skip) [1, 1])]) (N := (fun _ _ => False)) (N' := (fun _ _ => False)) (X := (fun i => (fun _ _ => False))) (X' := (fun i => (fun _ _ => False))) (R := s105_R K) (s := s) (w := w) (p := s105_p1 K (s 0) w) (q := s105_p1_den K s w) tr_id (fun i => tr_id) (by kernel_rfl) (by kernel_rfl) @h
/-- the call, from the text -/
theorem c105 (t0 : Value) {K : Value → World → Prop} {w : World} (h : s105_p1 K t0 w) : cl Try.prog 105 #[t0] K w :=
  calls_of_tr (c := (Try.f105.body.getD .skip)) (fn := Try.f105) (q := s105_p1_den K (st0 #[t0]) w) Try.func105 (by kernel_rfl) (by kernel_rfl) (Nat.le_of_ble_eq_true (by kernel_rfl)) (by kernel_rfl) (by kernel_rfl) (s105_p1_ok K (st0 #[t0]) w @h)

/-! ### function 106 : e2e.octetsm.payload -/
def s106_R (K : Value → World → Prop) (s : Nat → Value) (w : World) : Prop := retv Try.prog s Try.f106.results.toList (fun vs => K (pack vs) w) w
def s106_p1 (K : Value → World → Prop) (t3 : Value) (w : World) : Prop :=
  K t3 w
def s106_p1_den (K : Value → World → Prop) : (Nat → Value) → World → Prop := denL Try.prog [(cd (Try.f106.body.getD .skip) [1, 1, 1, 1, 0]), (cd (Try.f106.body.getD .skip) [1, 1, 1, 1, 1])] (fun _ _ => False) (fun i => (fun _ _ => False)) (s106_R K)
theorem s106_p1_ok (K : Value → World → Prop) (s : Nat → Value) (w : World) (h : s106_p1 K (s 3) w) : Tr (s106_p1_den K s w) :=
  tr_simple (P := Try.prog) (codes := [(cd (Try.f106.body.getD .skip) [1, 1, 1, 1, 0]), (cd (Try.f106.body.getD .skip) [1, 1, 1, 1, 1])]) (N := (fun _ _ => False)) (N' := (fun _ _ => False)) (X := (fun i => (fun _ _ => False))) (X' := (fun i => (fun _ _ => False))) (R := s106_R K) (s := s) (w := w) (p := s106_p1 K (s 3) w) (q := s106_p1_den K s w) tr_id (fun i => tr_id) (by kernel_rfl) (by kernel_rfl) @h
def s106_p2 (K : Value → World → Prop) (B1 : List Value → World → Prop) (t3 t36 t37 t38 : Value) (w : World) : Prop :=
  boI .lss t38 t37 (fun t39 w =>
  ifb t39
  (ixs 1 t36 t38 (fun t40 w =>
  ld1 t40 (fun t41 w =>
  boI .mul t3 (.int .i64 64) (fun t43 w =>
  cvi .i64 t41 (fun t45 w =>
  boI .rem t45 (.int .i64 64) (fun t46 w =>
  boI .add t43 t46 (fun t47 w =>
  boI .add t38 (.int .i64 1) (fun t48 w =>
  B1 [t47, t36, t37, t48] w) w) w) w) w) w) w) w)
  (s106_p1 K t3 w)) w
def s106_p2_den (K : Value → World → Prop) (M1 : (Nat → Value) → World → Prop) : (Nat → Value) → World → Prop := denL Try.prog [(cd (Try.f106.body.getD .skip) [1, 1, 1, 0, 1, 0, 0, 0]), (cd (Try.f106.body.getD .skip) [1, 1, 1, 0, 1, 0, 0, 1, 0]), (cd (Try.f106.body.getD .skip) [1, 1, 1, 0, 1, 0, 0, 1, 1, 0]), (cd (Try.f106.body.getD .skip) [1, 1, 1, 0, 1, 0, 0, 1, 1, 1])] M1 (fun i => (bif Nat.beq i 1 then (s106_p1_den K) else (fun _ _ => False))) (s106_R K)
theorem s106_p2_ok (K : Value → World → Prop) (B1 : List Value → World → Prop) (s : Nat → Value) (w : World) (h : s106_p2 K B1 (s 3) (s 36) (s 37) (s 38) w) : Tr (s106_p2_den K (fun s w => B1 [s 3, s 36, s 37, s 38] w) s w) :=
  tr_simple (P := Try.prog) (codes := [(cd (Try.f106.body.getD .skip) [1, 1, 1, 0, 1, 0, 0, 0]), (cd (Try.f106.body.getD .skip) [1, 1, 1, 0, 1, 0, 0, 1, 0]), (cd (Try.f106.body.getD .skip) [1, 1, 1, 0, 1, 0, 0, 1, 1, 0]), (cd (Try.f106.body.getD .skip) [1, 1, 1, 0, 1, 0, 0, 1, 1, 1])]) (N := (fun s w => B1 [s 3, s 36, s 37, s 38] w)) (N' := (fun s w => B1 [s 3, s 36, s 37, s 38] w)) (X := (fun i => (bif Nat.beq i 1 then (fun s w => s106_p1 K (s 3) w) else (fun _ _ => False)))) (X' := (fun i => (bif Nat.beq i 1 then (s106_p1_den K) else (fun _ _ => False)))) (R := s106_R K) (s := s) (w := w) (p := s106_p2 K B1 (s 3) (s 36) (s 37) (s 38) w) (q := s106_p2_den K (fun s w => B1 [s 3, s 36, s 37, s 38] w) s w) tr_id (fun i => (tr_bif (fun s w h => s106_p1_ok K s w @h) tr_id)) (by kernel_rfl) (by kernel_rfl) @h
def s106_p3_F (K : Value → World → Prop) (B1 : List Value → World → Prop) (l : List Value) (w : World) : Prop :=
  match l with
  | [t3, t36, t37, t38] => s106_p2 K B1 t3 t36 t37 t38 w
  | _ => False
theorem s106_p3_Fe {K : Value → World → Prop} {B1 : List Value → World → Prop} {t3 t36 t37 t38 : Value} {w : World} : s106_p3_F K B1 [t3, t36, t37, t38] w = s106_p2 K B1 t3 t36 t37 t38 w := by kernel_rfl
def s106_p3 (K : Value → World → Prop) (t3 t36 t37 t38 : Value) (w : World) : Prop :=
  LoopL (s106_p3_F K) [t3, t36, t37, t38] w
def s106_p3_den (K : Value → World → Prop) : (Nat → Value) → World → Prop := fun s w => LoopP (fun M1 s w => s106_p2_den K M1 s w) s w
theorem s106_p3_ok (K : Value → World → Prop) (s : Nat → Value) (w : World) (h : s106_p3 K (s 3) (s 36) (s 37) (s 38) w) : Tr (s106_p3_den K s w) :=
  tr_loop (G := fun N' s w => s106_p2_den K N' s w) (F := s106_p3_F K) (sel := fun s => [s 3, s 36, s 37, s 38]) (s := s) (w := w) (p := s106_p3 K (s 3) (s 36) (s 37) (s 38) w) (q := s106_p3_den K s w) (fun B s w h => s106_p2_ok K B s w @h) (by kernel_rfl) (by kernel_rfl) @h
def s106_p4 (K : Value → World → Prop) (t0 t3 : Value) (w : World) : Prop :=
  sls 1 t0 (some (.int .i64 1)) none (fun t36 w =>
  lnS t36 (fun t37 w =>
  s106_p3 K t3 t36 t37 (.int .i64 0) w) w) w
def s106_p4_den (K : Value → World → Prop) : (Nat → Value) → World → Prop := denL Try.prog [(cd (Try.f106.body.getD .skip) [1, 1, 1, 0, 0])] (s106_p3_den K) (fun i => (fun _ _ => False)) (s106_R K)
theorem s106_p4_ok (K : Value → World → Prop) (s : Nat → Value) (w : World) (h : s106_p4 K (s 0) (s 3) w) : Tr (s106_p4_den K s w) :=
  tr_simple (P := Try.prog) (codes := [(cd (Try.f106.body.getD .skip) [1, 1, 1, 0, 0])]) (N := (fun s w => s106_p3 K (s 3) (s 36) (s 37) (s 38) w)) (N' := (s106_p3_den K)) (X := (fun i => (fun _ _ => False))) (X' := (fun i => (fun _ _ => False))) (R := s106_R K) (s := s) (w := w) (p := s106_p4 K (s 0) (s 3) w) (q := s106_p4_den K s w) (fun s w h => s106_p3_ok K s w @h) (fun i => tr_id) (by kernel_rfl) (by kernel_rfl) @h
def s106_p5 (K : Value → World → Prop) (t0 : Value) (w : World) : Prop :=
  lnS t0 (fun t7 w =>
  boI .eql t7 (.int .i64 1) (fun t9 w =>
  ifb t9
  (ixs 1 t0 (.int .i64 0) (fun t11 w =>
  ld1 t11 (fun t12 w =>
  cvi .i64 t12 (fun t13 w =>
  s106_p4 K t0 t13 w) w) w) w)
  (boI .eql t7 (.int .i64 2) (fun t15 w =>
  ifb t15
  (ixs 1 t0 (.int .i64 0) (fun t17 w =>
  ld1 t17 (fun t18 w =>
  cvi .i64 t18 (fun t19 w =>
  boI .rem t19 (.int .i64 32) (fun t20 w =>
  s106_p4 K t0 t20 w) w) w) w) w)
  (boI .eql t7 (.int .i64 3) (fun t22 w =>
  ifb t22
  (ixs 1 t0 (.int .i64 0) (fun t24 w =>
  ld1 t24 (fun t25 w =>
  cvi .i64 t25 (fun t26 w =>
  boI .rem t26 (.int .i64 16) (fun t27 w =>
  s106_p4 K t0 t27 w) w) w) w) w)
  (boI .eql t7 (.int .i64 4) (fun t29 w =>
  ifb t29
  (ixs 1 t0 (.int .i64 0) (fun t31 w =>
  ld1 t31 (fun t32 w =>
  cvi .i64 t32 (fun t33 w =>
  boI .rem t33 (.int .i64 8) (fun t34 w =>
  s106_p4 K t0 t34 w) w) w) w) w)
  (s106_p4 K t0 (.int .i64 0) w)) w)) w)) w)) w) w
def s106_p5_den (K : Value → World → Prop) : (Nat → Value) → World → Prop := denL Try.prog [(cd (Try.f106.body.getD .skip) [0]), (cd (Try.f106.body.getD .skip) [1, 0]), (cd (Try.f106.body.getD .skip) [1, 1, 0, 0]), (cd (Try.f106.body.getD .skip) [1, 1, 0, 1])] (s106_p4_den K) (fun i => (fun _ _ => False)) (s106_R K)
theorem s106_p5_ok (K : Value → World → Prop) (s : Nat → Value) (w : World) (h : s106_p5 K (s 0) w) : Tr (s106_p5_den K s w) :=
  tr_simple (P := Try.prog) (codes := [(cd (Try.f106.body.getD .skip) [0]), (cd (Try.f106.body.getD .skip) [1, 0]), (cd (Try.f106.body.getD .skip) [1, 1, 0, 0]), (cd (Try.f106.body.getD .skip) [1, 1, 0, 1])]) (N := (fun s w => s106_p4 K (s 0) (s 3) w)) (N' := (s106_p4_den K)) (X := (fun i => (fun _ _ => False))) (X' := (fun i => (fun _ _ => False))) (R := s106_R K) (s := s) (w := w) (p := s106_p5 K (s 0) w) (q := s106_p5_den K s w) (fun s w h => s106_p4_ok K s w @h) (fun i => tr_id) (by kernel_rfl) (by kernel_rfl) @h
/-- the call, from the text -/
theorem c106 (t0 : Value) {K : Value → World → Prop} {w : World} (h : s106_p5 K t0 w) : cl Try.prog 106 #[t0] K w :=
  calls_of_tr (c := (Try.f106.body.getD .skip)) (fn := Try.f106) (q := s106_p5_den K (st0 #[t0]) w) Try.func106 (by kernel_rfl) (by kernel_rfl) (Nat.le_of_ble_eq_true (by kernel_rfl)) (by kernel_rfl) (by kernel_rfl) (s106_p5_ok K (st0 #[t0]) w @h)

end Go.Proofs.Qxb6500898a
