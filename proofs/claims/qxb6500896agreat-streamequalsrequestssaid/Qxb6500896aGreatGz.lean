import Derived.Test.Qxb6500896aGreatProg
import Derived.Test.Qxb6500896aGreatShMix3
namespace Go.Proofs.Qxb6500896aGreat
open Go.Sh Go.RowKit
set_option linter.unusedVariables false
set_option maxRecDepth 100000

/-! ### function 35 : e2e.enginelaw.bounded -/
def s35_R (K : Value → World → Prop) (s : Nat → Value) (w : World) : Prop := retv Tryz.prog s Tryz.f35.results.toList (fun vs => K (pack vs) w) w
def s35_p1 (K : Value → World → Prop) (w : World) : Prop :=
  K (.bool true) w
def s35_p1_den (K : Value → World → Prop) : (Nat → Value) → World → Prop := denL Tryz.prog [(cd (Tryz.f35.body.getD .skip) [1, 1, 1, 1, 1, 1, 1, 0]), (cd (Tryz.f35.body.getD .skip) [1, 1, 1, 1, 1, 1, 1, 1])] (fun _ _ => False) (fun i => (fun _ _ => False)) (s35_R K)
theorem s35_p1_ok (K : Value → World → Prop) (s : Nat → Value) (w : World) (h : s35_p1 K w) : Tr (s35_p1_den K s w) :=
  tr_simple (P := Tryz.prog) (codes := [(cd (Tryz.f35.body.getD .skip) [1, 1, 1, 1, 1, 1, 1, 0]), (cd (Tryz.f35.body.getD .skip) [1, 1, 1, 1, 1, 1, 1, 1])]) (N := (fun _ _ => False)) (N' := (fun _ _ => False)) (X := (fun i => (fun _ _ => False))) (X' := (fun i => (fun _ _ => False))) (R := s35_R K) (s := s) (w := w) (p := s35_p1 K w) (q := s35_p1_den K s w) tr_id (fun i => tr_id) (by kernel_rfl) (by kernel_rfl) @h
def s35_p2 (K : Value → World → Prop) (B1 : List Value → World → Prop) (t3 t103 t104 t105 : Value) (w : World) : Prop :=
  boI .add t105 (.int .i64 1) (fun t157 w =>
  B1 [t3, t103, t104, t157] w) w
def s35_p2_den (K : Value → World → Prop) (M1 : (Nat → Value) → World → Prop) : (Nat → Value) → World → Prop := denL Tryz.prog [(cd (Tryz.f35.body.getD .skip) [1, 1, 1, 1, 1, 1, 0, 1, 0, 0, 1, 1, 1])] M1 (fun i => (bif Nat.beq i 6 then (s35_p1_den K) else (fun _ _ => False))) (s35_R K)
theorem s35_p2_ok (K : Value → World → Prop) (B1 : List Value → World → Prop) (s : Nat → Value) (w : World) (h : s35_p2 K B1 (s 3) (s 103) (s 104) (s 105) w) : Tr (s35_p2_den K (fun s w => B1 [s 3, s 103, s 104, s 105] w) s w) :=
  tr_simple (P := Tryz.prog) (codes := [(cd (Tryz.f35.body.getD .skip) [1, 1, 1, 1, 1, 1, 0, 1, 0, 0, 1, 1, 1])]) (N := (fun s w => B1 [s 3, s 103, s 104, s 105] w)) (N' := (fun s w => B1 [s 3, s 103, s 104, s 105] w)) (X := (fun i => (bif Nat.beq i 6 then (fun s w => s35_p1 K w) else (fun _ _ => False)))) (X' := (fun i => (bif Nat.beq i 6 then (s35_p1_den K) else (fun _ _ => False)))) (R := s35_R K) (s := s) (w := w) (p := s35_p2 K B1 (s 3) (s 103) (s 104) (s 105) w) (q := s35_p2_den K (fun s w => B1 [s 3, s 103, s 104, s 105] w) s w) tr_id (fun i => (tr_bif (fun s w h => s35_p1_ok K s w @h) tr_id)) (by kernel_rfl) (by kernel_rfl) @h
def s35_p3 (K : Value → World → Prop) (B1 : List Value → World → Prop) (B2 : List Value → World → Prop) (t3 t18 t19 t103 t104 t105 : Value) (w : World) : Prop :=
  boI .add t19 (.int .i64 1) (fun t121 w =>
  B2 [t3, t18, t121, t103, t104, t105] w) w
def s35_p3_den (K : Value → World → Prop) (M1 : (Nat → Value) → World → Prop) (M2 : (Nat → Value) → World → Prop) : (Nat → Value) → World → Prop := denL Tryz.prog [(cd (Tryz.f35.body.getD .skip) [1, 1, 1, 1, 1, 1, 0, 1, 0, 0, 1, 1, 0, 0, 1, 1, 0, 0, 1, 1])] M2 (fun i => (bif Nat.beq i 8 then (s35_p2_den K M1) else (bif Nat.beq i 7 then (s35_p2_den K M1) else (bif Nat.beq i 6 then (s35_p1_den K) else (fun _ _ => False))))) (s35_R K)
theorem s35_p3_ok (K : Value → World → Prop) (B1 : List Value → World → Prop) (B2 : List Value → World → Prop) (s : Nat → Value) (w : World) (h : s35_p3 K B1 B2 (s 3) (s 18) (s 19) (s 103) (s 104) (s 105) w) : Tr (s35_p3_den K (fun s w => B1 [s 3, s 103, s 104, s 105] w) (fun s w => B2 [s 3, s 18, s 19, s 103, s 104, s 105] w) s w) :=
  tr_simple (P := Tryz.prog) (codes := [(cd (Tryz.f35.body.getD .skip) [1, 1, 1, 1, 1, 1, 0, 1, 0, 0, 1, 1, 0, 0, 1, 1, 0, 0, 1, 1])]) (N := (fun s w => B2 [s 3, s 18, s 19, s 103, s 104, s 105] w)) (N' := (fun s w => B2 [s 3, s 18, s 19, s 103, s 104, s 105] w)) (X := (fun i => (bif Nat.beq i 8 then (fun s w => s35_p2 K B1 (s 3) (s 103) (s 104) (s 105) w) else (bif Nat.beq i 7 then (fun s w => s35_p2 K B1 (s 3) (s 103) (s 104) (s 105) w) else (bif Nat.beq i 6 then (fun s w => s35_p1 K w) else (fun _ _ => False)))))) (X' := (fun i => (bif Nat.beq i 8 then (s35_p2_den K (fun s w => B1 [s 3, s 103, s 104, s 105] w)) else (bif Nat.beq i 7 then (s35_p2_den K (fun s w => B1 [s 3, s 103, s 104, s 105] w)) else (bif Nat.beq i 6 then (s35_p1_den K) else (fun _ _ => False)))))) (R := s35_R K) (s := s) (w := w) (p := s35_p3 K B1 B2 (s 3) (s 18) (s 19) (s 103) (s 104) (s 105) w) (q := s35_p3_den K (fun s w => B1 [s 3, s 103, s 104, s 105] w) (fun s w => B2 [s 3, s 18, s 19, s 103, s 104, s 105] w) s w) tr_id (fun i => (tr_bif (fun s w h => s35_p2_ok K B1 s w @h) (tr_bif (fun s w h => s35_p2_ok K B1 s w @h) (tr_bif (fun s w h => s35_p1_ok K s w @h) tr_id)))) (by kernel_rfl) (by kernel_rfl) @h
def s35_p4 (K : Value → World → Prop) (B1 : List Value → World → Prop) (B2 : List Value → World → Prop) (t3 t18 t19 t103 t104 t105 t156 : Value) (w : World) : Prop :=
  ifb t156
  (K (.bool false) w)
  (s35_p3 K B1 B2 t3 t18 t19 t103 t104 t105 w)
def s35_p4_den (K : Value → World → Prop) (M1 : (Nat → Value) → World → Prop) (M2 : (Nat → Value) → World → Prop) : (Nat → Value) → World → Prop := denL Tryz.prog [(cd (Tryz.f35.body.getD .skip) [1, 1, 1, 1, 1, 1, 0, 1, 0, 0, 1, 1, 0, 0, 1, 1, 0, 0, 1, 0, 0, 1, 1])] (s35_p3_den K M1 M2) (fun i => (bif Nat.beq i 9 then (s35_p3_den K M1 M2) else (bif Nat.beq i 8 then (s35_p2_den K M1) else (bif Nat.beq i 7 then (s35_p2_den K M1) else (bif Nat.beq i 6 then (s35_p1_den K) else (fun _ _ => False)))))) (s35_R K)
theorem s35_p4_ok (K : Value → World → Prop) (B1 : List Value → World → Prop) (B2 : List Value → World → Prop) (s : Nat → Value) (w : World) (h : s35_p4 K B1 B2 (s 3) (s 18) (s 19) (s 103) (s 104) (s 105) (s 156) w) : Tr (s35_p4_den K (fun s w => B1 [s 3, s 103, s 104, s 105] w) (fun s w => B2 [s 3, s 18, s 19, s 103, s 104, s 105] w) s w) :=
  tr_simple (P := Tryz.prog) (codes := [(cd (Tryz.f35.body.getD .skip) [1, 1, 1, 1, 1, 1, 0, 1, 0, 0, 1, 1, 0, 0, 1, 1, 0, 0, 1, 0, 0, 1, 1])]) (N := (fun s w => s35_p3 K B1 B2 (s 3) (s 18) (s 19) (s 103) (s 104) (s 105) w)) (N' := (s35_p3_den K (fun s w => B1 [s 3, s 103, s 104, s 105] w) (fun s w => B2 [s 3, s 18, s 19, s 103, s 104, s 105] w))) (X := (fun i => (bif Nat.beq i 9 then (fun s w => s35_p3 K B1 B2 (s 3) (s 18) (s 19) (s 103) (s 104) (s 105) w) else (bif Nat.beq i 8 then (fun s w => s35_p2 K B1 (s 3) (s 103) (s 104) (s 105) w) else (bif Nat.beq i 7 then (fun s w => s35_p2 K B1 (s 3) (s 103) (s 104) (s 105) w) else (bif Nat.beq i 6 then (fun s w => s35_p1 K w) else (fun _ _ => False))))))) (X' := (fun i => (bif Nat.beq i 9 then (s35_p3_den K (fun s w => B1 [s 3, s 103, s 104, s 105] w) (fun s w => B2 [s 3, s 18, s 19, s 103, s 104, s 105] w)) else (bif Nat.beq i 8 then (s35_p2_den K (fun s w => B1 [s 3, s 103, s 104, s 105] w)) else (bif Nat.beq i 7 then (s35_p2_den K (fun s w => B1 [s 3, s 103, s 104, s 105] w)) else (bif Nat.beq i 6 then (s35_p1_den K) else (fun _ _ => False))))))) (R := s35_R K) (s := s) (w := w) (p := s35_p4 K B1 B2 (s 3) (s 18) (s 19) (s 103) (s 104) (s 105) (s 156) w) (q := s35_p4_den K (fun s w => B1 [s 3, s 103, s 104, s 105] w) (fun s w => B2 [s 3, s 18, s 19, s 103, s 104, s 105] w) s w) (fun s w h => s35_p3_ok K B1 B2 s w @h) (fun i => (tr_bif (fun s w h => s35_p3_ok K B1 B2 s w @h) (tr_bif (fun s w h => s35_p2_ok K B1 s w @h) (tr_bif (fun s w h => s35_p2_ok K B1 s w @h) (tr_bif (fun s w h => s35_p1_ok K s w @h) tr_id))))) (by kernel_rfl) (by kernel_rfl) @h
def s35_p5_d (K : Value → World → Prop) (B1 : List Value → World → Prop) (B2 : List Value → World → Prop) (t3 t18 t19 t20 t21 t103 t104 t105 : Value) (w0 w : World) : Prop :=
  fd 1 t21 (fun t133 _ =>
  ld1 t133 (fun t134 _ =>
  fd 1 t20 (fun t135 _ =>
  ld1 t135 (fun t136 _ =>
  fd 0 t3 (fun t137 _ =>
  ld1 t137 (fun t138 _ =>
  fd 0 t20 (fun t139 _ =>
  ld1 t139 (fun t140 _ =>
  ixs 5 t138 t140 (fun t141 _ =>
  fd 1 t141 (fun t142 _ =>
  ld1 t142 (fun t143 _ =>
  boI .add t136 t143 (fun t144 _ =>
  fd 1 t3 (fun t145 _ =>
  ld1 t145 (fun t146 _ =>
  fd 0 t20 (fun t147 _ =>
  ld1 t147 (fun t148 _ =>
  ixs 1 t146 t148 (fun t149 _ =>
  ld1 t149 (fun t150 _ =>
  fd 0 t21 (fun t151 _ =>
  ld1 t151 (fun t152 _ =>
  ixs 1 t150 t152 (fun t153 _ =>
  ld1 t153 (fun t154 _ =>
  boI .add t144 t154 (fun t155 _ =>
  boI .lss t134 t155 (fun t156 _ =>
  s35_p4 K B1 B2 t3 t18 t19 t103 t104 t105 t156 w) w0) w0) w0) w0) w0) w0) w0) w0) w0) w0) w0) w0) w0) w0) w0) w0) w0) w0) w0) w0) w0) w0) w0) w0
def s35_p5 (K : Value → World → Prop) (B1 : List Value → World → Prop) (B2 : List Value → World → Prop) (t3 t18 t19 t20 t21 t103 t104 t105 : Value) (w : World) : Prop := s35_p5_d K B1 B2 t3 t18 t19 t20 t21 t103 t104 t105 (drw w) (drw w)
def s35_p5_den (K : Value → World → Prop) (M1 : (Nat → Value) → World → Prop) (M2 : (Nat → Value) → World → Prop) : (Nat → Value) → World → Prop := denL Tryz.prog [(cd (Tryz.f35.body.getD .skip) [1, 1, 1, 1, 1, 1, 0, 1, 0, 0, 1, 1, 0, 0, 1, 1, 0, 0, 1, 0, 0, 1, 0])] (s35_p4_den K M1 M2) (fun i => (bif Nat.beq i 9 then (s35_p3_den K M1 M2) else (bif Nat.beq i 8 then (s35_p2_den K M1) else (bif Nat.beq i 7 then (s35_p2_den K M1) else (bif Nat.beq i 6 then (s35_p1_den K) else (fun _ _ => False)))))) (s35_R K)
theorem s35_p5_ok (K : Value → World → Prop) (B1 : List Value → World → Prop) (B2 : List Value → World → Prop) (s : Nat → Value) (w : World) (h : s35_p5 K B1 B2 (s 3) (s 18) (s 19) (s 20) (s 21) (s 103) (s 104) (s 105) w) : Tr (s35_p5_den K (fun s w => B1 [s 3, s 103, s 104, s 105] w) (fun s w => B2 [s 3, s 18, s 19, s 103, s 104, s 105] w) s w) :=
  tr_draw (P := Tryz.prog) (ops := (ro (cd (Tryz.f35.body.getD .skip) [1, 1, 1, 1, 1, 1, 0, 1, 0, 0, 1, 1, 0, 0, 1, 1, 0, 0, 1, 0, 0, 1, 0]))) (ms := [0, 1, 0, 4, 0, 16, 0, 64, 240, 496, 1008, 2044, 0, 4096, 0, 16384, 61440, 126976, 0, 262144, 1044480, 2093056, 4194300, 8388607]) (cs := [0, 1, 2, 3, 4, 5, 6, 7, 8, 9, 10, 11, 12, 13, 14, 15, 16, 17, 18, 19, 20, 21, 22, 23]) (N := (fun s w => s35_p4 K B1 B2 (s 3) (s 18) (s 19) (s 103) (s 104) (s 105) (s 156) w)) (N' := (s35_p4_den K (fun s w => B1 [s 3, s 103, s 104, s 105] w) (fun s w => B2 [s 3, s 18, s 19, s 103, s 104, s 105] w))) (s := s) (w := w) (p := s35_p5 K B1 B2 (s 3) (s 18) (s 19) (s 20) (s 21) (s 103) (s 104) (s 105) w) (q := s35_p5_den K (fun s w => B1 [s 3, s 103, s 104, s 105] w) (fun s w => B2 [s 3, s 18, s 19, s 103, s 104, s 105] w) s w) (by kernel_rfl) (by kernel_rfl) (fun s w h => s35_p4_ok K B1 B2 s w @h) (by kernel_rfl) (by kernel_rfl) @h
def s35_p6_d (K : Value → World → Prop) (B1 : List Value → World → Prop) (B2 : List Value → World → Prop) (J : World → Prop) (t3 t18 t19 t103 t104 t105 : Value) (w0 w : World) : Prop :=
  fd 6 t18 (fun t122 _ =>
  Go.Sh.R.qw J (ld1 t122) (fun t123 =>
  ixs 2 t123 t19 (fun t125 _ =>
  Go.Sh.R.qw J (ldn 2 t125) (fun t126 =>
  fd 6 t18 (fun t127 _ =>
  Go.Sh.R.qw J (ld1 t127) (fun t128 =>
  boI .add t19 (.int .i64 1) (fun t130 _ =>
  ixs 2 t128 t130 (fun t131 _ =>
  Go.Sh.R.qw J (ldn 2 t131) (fun t132 =>
  (nw 88 #[(.int .i64 0), (.int .i64 0)] (fun t20 w =>
  J w ∧
  nw 88 #[(.int .i64 0), (.int .i64 0)] (fun t21 w =>
  J w ∧
  stn 2 t20 t126 (fun w =>
  J w ∧
  stn 2 t21 t132 (fun w =>
  s35_p5 K B1 B2 t3 t18 t19 t20 t21 t103 t104 t105 w) w) w) w) w) ∧
  (nw 88 #[(.int .i64 0), (.int .i64 0)] (fun t21_2 w =>
  J w ∧
  nw 88 #[(.int .i64 0), (.int .i64 0)] (fun t20_2 w =>
  J w ∧
  stn 2 t20_2 t126 (fun w =>
  J w ∧
  stn 2 t21_2 t132 (fun w =>
  s35_p5 K B1 B2 t3 t18 t19 t20_2 t21_2 t103 t104 t105 w) w) w) w) w))) w0) w0)) w0)) w0)) w0
def s35_p6 (K : Value → World → Prop) (B1 : List Value → World → Prop) (B2 : List Value → World → Prop) (t3 t18 t19 t103 t104 t105 : Value) (w : World) : Prop := ∃ J : World → Prop, J (drw w) ∧ s35_p6_d K B1 B2 J t3 t18 t19 t103 t104 t105 (drw w) (drw w)
def s35_p6_den (K : Value → World → Prop) (M1 : (Nat → Value) → World → Prop) (M2 : (Nat → Value) → World → Prop) : (Nat → Value) → World → Prop := denL Tryz.prog [(cd (Tryz.f35.body.getD .skip) [1, 1, 1, 1, 1, 1, 0, 1, 0, 0, 1, 1, 0, 0, 1, 1, 0, 0, 1, 0, 0, 0])] (s35_p5_den K M1 M2) (fun i => (bif Nat.beq i 9 then (s35_p3_den K M1 M2) else (bif Nat.beq i 8 then (s35_p2_den K M1) else (bif Nat.beq i 7 then (s35_p2_den K M1) else (bif Nat.beq i 6 then (s35_p1_den K) else (fun _ _ => False)))))) (s35_R K)
theorem s35_p6_ok (K : Value → World → Prop) (B1 : List Value → World → Prop) (B2 : List Value → World → Prop) (s : Nat → Value) (w : World) (h : s35_p6 K B1 B2 (s 3) (s 18) (s 19) (s 103) (s 104) (s 105) w) : Tr (s35_p6_den K (fun s w => B1 [s 3, s 103, s 104, s 105] w) (fun s w => B2 [s 3, s 18, s 19, s 103, s 104, s 105] w) s w) :=
  Go.Sh.R.tr_drawR (P := Tryz.prog) (ops := (ro (cd (Tryz.f35.body.getD .skip) [1, 1, 1, 1, 1, 1, 0, 1, 0, 0, 1, 1, 0, 0, 1, 1, 0, 0, 1, 0, 0, 0]))) (ms := [0, 1, 0, 7, 15, 0, 32, 0, 128, 480, 992, 0, 0, 6175, 16383]) (cs := [0, 1, 2, 3, 4, 5, 6, 7, 8, 9, 10]) (N := (fun s w => s35_p5 K B1 B2 (s 3) (s 18) (s 19) (s 20) (s 21) (s 103) (s 104) (s 105) w)) (N' := (s35_p5_den K (fun s w => B1 [s 3, s 103, s 104, s 105] w) (fun s w => B2 [s 3, s 18, s 19, s 103, s 104, s 105] w))) (s := s) (w := w) (p := fun J => s35_p6_d K B1 B2 J (s 3) (s 18) (s 19) (s 103) (s 104) (s 105) (drw w) (drw w)) (q := s35_p6_den K (fun s w => B1 [s 3, s 103, s 104, s 105] w) (fun s w => B2 [s 3, s 18, s 19, s 103, s 104, s 105] w) s w) (by kernel_rfl) (by kernel_rfl) (fun s w h => s35_p5_ok K B1 B2 s w @h) (by kernel_rfl) (by kernel_rfl) @h
def s35_p7 (K : Value → World → Prop) (B1 : List Value → World → Prop) (B2 : List Value → World → Prop) (t3 t18 t19 t103 t104 t105 : Value) (w : World) : Prop :=
  fd 1 t18 (fun t109 w =>
  ld1 t109 (fun t110 w =>
  cl Tryz.prog 115 #[t110] (fun t111 w =>
  gd t111 true (fun K w => K t19 w) (fun t113 w =>
  gd t111 true (boI .add t113 (.int .i64 1)) (fun t114 w =>
  gd t111 true (fd 6 t18) (fun t115 w =>
  gd t111 true (ld1 t115) (fun t116 w =>
  gd t111 true (lnS t116) (fun t117 w =>
  gd t111 true (boI .lss t114 t117) (fun t118 w =>
  pk t111 t118 (.bool false) (fun t119 w =>
  ifb t119
  (s35_p6 K B1 B2 t3 t18 t19 t103 t104 t105 w)
  (s35_p2 K B1 t3 t103 t104 t105 w)) w) w) w) w) w) w) w) w) w) w
def s35_p7_den (K : Value → World → Prop) (M1 : (Nat → Value) → World → Prop) (M2 : (Nat → Value) → World → Prop) : (Nat → Value) → World → Prop := denL Tryz.prog [(cd (Tryz.f35.body.getD .skip) [1, 1, 1, 1, 1, 1, 0, 1, 0, 0, 1, 1, 0, 0, 1, 1, 0, 0, 0, 0]), (cd (Tryz.f35.body.getD .skip) [1, 1, 1, 1, 1, 1, 0, 1, 0, 0, 1, 1, 0, 0, 1, 1, 0, 0, 0, 1])] (s35_p6_den K M1 M2) (fun i => (bif Nat.beq i 8 then (s35_p2_den K M1) else (bif Nat.beq i 7 then (s35_p2_den K M1) else (bif Nat.beq i 6 then (s35_p1_den K) else (fun _ _ => False))))) (s35_R K)
theorem s35_p7_ok (K : Value → World → Prop) (B1 : List Value → World → Prop) (B2 : List Value → World → Prop) (s : Nat → Value) (w : World) (h : s35_p7 K B1 B2 (s 3) (s 18) (s 19) (s 103) (s 104) (s 105) w) : Tr (s35_p7_den K (fun s w => B1 [s 3, s 103, s 104, s 105] w) (fun s w => B2 [s 3, s 18, s 19, s 103, s 104, s 105] w) s w) :=
  tr_simple (P := Tryz.prog) (codes := [(cd (Tryz.f35.body.getD .skip) [1, 1, 1, 1, 1, 1, 0, 1, 0, 0, 1, 1, 0, 0, 1, 1, 0, 0, 0, 0]), (cd (Tryz.f35.body.getD .skip) [1, 1, 1, 1, 1, 1, 0, 1, 0, 0, 1, 1, 0, 0, 1, 1, 0, 0, 0, 1])]) (N := (fun s w => s35_p6 K B1 B2 (s 3) (s 18) (s 19) (s 103) (s 104) (s 105) w)) (N' := (s35_p6_den K (fun s w => B1 [s 3, s 103, s 104, s 105] w) (fun s w => B2 [s 3, s 18, s 19, s 103, s 104, s 105] w))) (X := (fun i => (bif Nat.beq i 8 then (fun s w => s35_p2 K B1 (s 3) (s 103) (s 104) (s 105) w) else (bif Nat.beq i 7 then (fun s w => s35_p2 K B1 (s 3) (s 103) (s 104) (s 105) w) else (bif Nat.beq i 6 then (fun s w => s35_p1 K w) else (fun _ _ => False)))))) (X' := (fun i => (bif Nat.beq i 8 then (s35_p2_den K (fun s w => B1 [s 3, s 103, s 104, s 105] w)) else (bif Nat.beq i 7 then (s35_p2_den K (fun s w => B1 [s 3, s 103, s 104, s 105] w)) else (bif Nat.beq i 6 then (s35_p1_den K) else (fun _ _ => False)))))) (R := s35_R K) (s := s) (w := w) (p := s35_p7 K B1 B2 (s 3) (s 18) (s 19) (s 103) (s 104) (s 105) w) (q := s35_p7_den K (fun s w => B1 [s 3, s 103, s 104, s 105] w) (fun s w => B2 [s 3, s 18, s 19, s 103, s 104, s 105] w) s w) (fun s w h => s35_p6_ok K B1 B2 s w @h) (fun i => (tr_bif (fun s w h => s35_p2_ok K B1 s w @h) (tr_bif (fun s w h => s35_p2_ok K B1 s w @h) (tr_bif (fun s w h => s35_p1_ok K s w @h) tr_id)))) (by kernel_rfl) (by kernel_rfl) @h
def s35_p8_F (K : Value → World → Prop) (B1 : List Value → World → Prop) (B2 : List Value → World → Prop) (l : List Value) (w : World) : Prop :=
  match l with
  | [t3, t18, t19, t103, t104, t105] => s35_p7 K B1 B2 t3 t18 t19 t103 t104 t105 w
  | _ => False
theorem s35_p8_Fe {K : Value → World → Prop} {B1 : List Value → World → Prop} {B2 : List Value → World → Prop} {t3 t18 t19 t103 t104 t105 : Value} {w : World} : s35_p8_F K B1 B2 [t3, t18, t19, t103, t104, t105] w = s35_p7 K B1 B2 t3 t18 t19 t103 t104 t105 w := by kernel_rfl
def s35_p8 (K : Value → World → Prop) (B1 : List Value → World → Prop) (t3 t18 t19 t103 t104 t105 : Value) (w : World) : Prop :=
  LoopL (s35_p8_F K B1) [t3, t18, t19, t103, t104, t105] w
def s35_p8_den (K : Value → World → Prop) (M1 : (Nat → Value) → World → Prop) : (Nat → Value) → World → Prop := fun s w => LoopP (fun M2 s w => s35_p7_den K M1 M2 s w) s w
theorem s35_p8_ok (K : Value → World → Prop) (B1 : List Value → World → Prop) (s : Nat → Value) (w : World) (h : s35_p8 K B1 (s 3) (s 18) (s 19) (s 103) (s 104) (s 105) w) : Tr (s35_p8_den K (fun s w => B1 [s 3, s 103, s 104, s 105] w) s w) :=
  tr_loop (G := fun N' s w => s35_p7_den K (fun s w => B1 [s 3, s 103, s 104, s 105] w) N' s w) (F := s35_p8_F K B1) (sel := fun s => [s 3, s 18, s 19, s 103, s 104, s 105]) (s := s) (w := w) (p := s35_p8 K B1 (s 3) (s 18) (s 19) (s 103) (s 104) (s 105) w) (q := s35_p8_den K (fun s w => B1 [s 3, s 103, s 104, s 105] w) s w) (fun B s w h => s35_p7_ok K B1 B s w @h) (by kernel_rfl) (by kernel_rfl) @h
def s35_p9 (K : Value → World → Prop) (B1 : List Value → World → Prop) (t3 t103 t104 t105 : Value) (w : World) : Prop :=
  ixs 7 t103 t105 (fun t107 w =>
  ldn 7 t107 (fun t108 w =>
  nw 85 #[(.int .i64 0), (.int .i64 0), (.int .i64 0), (.int .i64 0), (.int .i64 0), (.int .i64 0), (.slice none 0 0)] (fun t18 w =>
  stn 7 t18 t108 (fun w =>
  s35_p8 K B1 t3 t18 (.int .i64 0) t103 t104 t105 w) w) w) w) w
def s35_p9_den (K : Value → World → Prop) (M1 : (Nat → Value) → World → Prop) : (Nat → Value) → World → Prop := denL Tryz.prog [(cd (Tryz.f35.body.getD .skip) [1, 1, 1, 1, 1, 1, 0, 1, 0, 0, 1, 1, 0, 0, 0]), (cd (Tryz.f35.body.getD .skip) [1, 1, 1, 1, 1, 1, 0, 1, 0, 0, 1, 1, 0, 0, 1, 0])] (s35_p8_den K M1) (fun i => (bif Nat.beq i 7 then (s35_p2_den K M1) else (bif Nat.beq i 6 then (s35_p1_den K) else (fun _ _ => False)))) (s35_R K)
theorem s35_p9_ok (K : Value → World → Prop) (B1 : List Value → World → Prop) (s : Nat → Value) (w : World) (h : s35_p9 K B1 (s 3) (s 103) (s 104) (s 105) w) : Tr (s35_p9_den K (fun s w => B1 [s 3, s 103, s 104, s 105] w) s w) :=
  tr_simple (P := Tryz.prog) (codes := [(cd (Tryz.f35.body.getD .skip) [1, 1, 1, 1, 1, 1, 0, 1, 0, 0, 1, 1, 0, 0, 0]), (cd (Tryz.f35.body.getD .skip) [1, 1, 1, 1, 1, 1, 0, 1, 0, 0, 1, 1, 0, 0, 1, 0])]) (N := (fun s w => s35_p8 K B1 (s 3) (s 18) (s 19) (s 103) (s 104) (s 105) w)) (N' := (s35_p8_den K (fun s w => B1 [s 3, s 103, s 104, s 105] w))) (X := (fun i => (bif Nat.beq i 7 then (fun s w => s35_p2 K B1 (s 3) (s 103) (s 104) (s 105) w) else (bif Nat.beq i 6 then (fun s w => s35_p1 K w) else (fun _ _ => False))))) (X' := (fun i => (bif Nat.beq i 7 then (s35_p2_den K (fun s w => B1 [s 3, s 103, s 104, s 105] w)) else (bif Nat.beq i 6 then (s35_p1_den K) else (fun _ _ => False))))) (R := s35_R K) (s := s) (w := w) (p := s35_p9 K B1 (s 3) (s 103) (s 104) (s 105) w) (q := s35_p9_den K (fun s w => B1 [s 3, s 103, s 104, s 105] w) s w) (fun s w h => s35_p8_ok K B1 s w @h) (fun i => (tr_bif (fun s w h => s35_p2_ok K B1 s w @h) (tr_bif (fun s w h => s35_p1_ok K s w @h) tr_id))) (by kernel_rfl) (by kernel_rfl) @h
def s35_p10 (K : Value → World → Prop) (B1 : List Value → World → Prop) (t3 t103 t104 t105 : Value) (w : World) : Prop :=
  boI .lss t105 t104 (fun t106 w =>
  ifb t106
  (s35_p9 K B1 t3 t103 t104 t105 w)
  (s35_p1 K w)) w
def s35_p10_den (K : Value → World → Prop) (M1 : (Nat → Value) → World → Prop) : (Nat → Value) → World → Prop := denL Tryz.prog [(cd (Tryz.f35.body.getD .skip) [1, 1, 1, 1, 1, 1, 0, 1, 0, 0, 0]), (cd (Tryz.f35.body.getD .skip) [1, 1, 1, 1, 1, 1, 0, 1, 0, 0, 1, 0])] (s35_p9_den K M1) (fun i => (bif Nat.beq i 6 then (s35_p1_den K) else (fun _ _ => False))) (s35_R K)
theorem s35_p10_ok (K : Value → World → Prop) (B1 : List Value → World → Prop) (s : Nat → Value) (w : World) (h : s35_p10 K B1 (s 3) (s 103) (s 104) (s 105) w) : Tr (s35_p10_den K (fun s w => B1 [s 3, s 103, s 104, s 105] w) s w) :=
  tr_simple (P := Tryz.prog) (codes := [(cd (Tryz.f35.body.getD .skip) [1, 1, 1, 1, 1, 1, 0, 1, 0, 0, 0]), (cd (Tryz.f35.body.getD .skip) [1, 1, 1, 1, 1, 1, 0, 1, 0, 0, 1, 0])]) (N := (fun s w => s35_p9 K B1 (s 3) (s 103) (s 104) (s 105) w)) (N' := (s35_p9_den K (fun s w => B1 [s 3, s 103, s 104, s 105] w))) (X := (fun i => (bif Nat.beq i 6 then (fun s w => s35_p1 K w) else (fun _ _ => False)))) (X' := (fun i => (bif Nat.beq i 6 then (s35_p1_den K) else (fun _ _ => False)))) (R := s35_R K) (s := s) (w := w) (p := s35_p10 K B1 (s 3) (s 103) (s 104) (s 105) w) (q := s35_p10_den K (fun s w => B1 [s 3, s 103, s 104, s 105] w) s w) (fun s w h => s35_p9_ok K B1 s w @h) (fun i => (tr_bif (fun s w h => s35_p1_ok K s w @h) tr_id)) (by kernel_rfl) (by kernel_rfl) @h
def s35_p11_F (K : Value → World → Prop) (B1 : List Value → World → Prop) (l : List Value) (w : World) : Prop :=
  match l with
  | [t3, t103, t104, t105] => s35_p10 K B1 t3 t103 t104 t105 w
  | _ => False
theorem s35_p11_Fe {K : Value → World → Prop} {B1 : List Value → World → Prop} {t3 t103 t104 t105 : Value} {w : World} : s35_p11_F K B1 [t3, t103, t104, t105] w = s35_p10 K B1 t3 t103 t104 t105 w := by kernel_rfl
def s35_p11 (K : Value → World → Prop) (t3 t103 t104 t105 : Value) (w : World) : Prop :=
  LoopL (s35_p11_F K) [t3, t103, t104, t105] w
def s35_p11_den (K : Value → World → Prop) : (Nat → Value) → World → Prop := fun s w => LoopP (fun M1 s w => s35_p10_den K M1 s w) s w
theorem s35_p11_ok (K : Value → World → Prop) (s : Nat → Value) (w : World) (h : s35_p11 K (s 3) (s 103) (s 104) (s 105) w) : Tr (s35_p11_den K s w) :=
  tr_loop (G := fun N' s w => s35_p10_den K N' s w) (F := s35_p11_F K) (sel := fun s => [s 3, s 103, s 104, s 105]) (s := s) (w := w) (p := s35_p11 K (s 3) (s 103) (s 104) (s 105) w) (q := s35_p11_den K s w) (fun B s w h => s35_p10_ok K B s w @h) (by kernel_rfl) (by kernel_rfl) @h
def s35_p12 (K : Value → World → Prop) (t3 t4 : Value) (w : World) : Prop :=
  lnS t4 (fun t104 w =>
  s35_p11 K t3 t4 t104 (.int .i64 0) w) w
def s35_p12_den (K : Value → World → Prop) : (Nat → Value) → World → Prop := denL Tryz.prog [(cd (Tryz.f35.body.getD .skip) [1, 1, 1, 1, 1, 1, 0, 0])] (s35_p11_den K) (fun i => (fun _ _ => False)) (s35_R K)
theorem s35_p12_ok (K : Value → World → Prop) (s : Nat → Value) (w : World) (h : s35_p12 K (s 3) (s 4) w) : Tr (s35_p12_den K s w) :=
  tr_simple (P := Tryz.prog) (codes := [(cd (Tryz.f35.body.getD .skip) [1, 1, 1, 1, 1, 1, 0, 0])]) (N := (fun s w => s35_p11 K (s 3) (s 103) (s 104) (s 105) w)) (N' := (s35_p11_den K)) (X := (fun i => (fun _ _ => False))) (X' := (fun i => (fun _ _ => False))) (R := s35_R K) (s := s) (w := w) (p := s35_p12 K (s 3) (s 4) w) (q := s35_p12_den K s w) (fun s w h => s35_p11_ok K s w @h) (fun i => tr_id) (by kernel_rfl) (by kernel_rfl) @h
def s35_p13 (K : Value → World → Prop) (B1 : List Value → World → Prop) (t0 t3 t4 t6 t7 t42 t43 t44 : Value) (w : World) : Prop :=
  boI .add t44 (.int .i64 1) (fun t102 w =>
  B1 [t0, t3, t4, t6, t7, t42, t43, t102] w) w
def s35_p13_den (K : Value → World → Prop) (M1 : (Nat → Value) → World → Prop) : (Nat → Value) → World → Prop := denL Tryz.prog [(cd (Tryz.f35.body.getD .skip) [1, 1, 1, 1, 1, 0, 1, 0, 0, 1, 1, 1])] M1 (fun i => (bif Nat.beq i 0 then (s35_p12_den K) else (fun _ _ => False))) (s35_R K)
theorem s35_p13_ok (K : Value → World → Prop) (B1 : List Value → World → Prop) (s : Nat → Value) (w : World) (h : s35_p13 K B1 (s 0) (s 3) (s 4) (s 6) (s 7) (s 42) (s 43) (s 44) w) : Tr (s35_p13_den K (fun s w => B1 [s 0, s 3, s 4, s 6, s 7, s 42, s 43, s 44] w) s w) :=
  tr_simple (P := Tryz.prog) (codes := [(cd (Tryz.f35.body.getD .skip) [1, 1, 1, 1, 1, 0, 1, 0, 0, 1, 1, 1])]) (N := (fun s w => B1 [s 0, s 3, s 4, s 6, s 7, s 42, s 43, s 44] w)) (N' := (fun s w => B1 [s 0, s 3, s 4, s 6, s 7, s 42, s 43, s 44] w)) (X := (fun i => (bif Nat.beq i 0 then (fun s w => s35_p12 K (s 3) (s 4) w) else (fun _ _ => False)))) (X' := (fun i => (bif Nat.beq i 0 then (s35_p12_den K) else (fun _ _ => False)))) (R := s35_R K) (s := s) (w := w) (p := s35_p13 K B1 (s 0) (s 3) (s 4) (s 6) (s 7) (s 42) (s 43) (s 44) w) (q := s35_p13_den K (fun s w => B1 [s 0, s 3, s 4, s 6, s 7, s 42, s 43, s 44] w) s w) tr_id (fun i => (tr_bif (fun s w h => s35_p12_ok K s w @h) tr_id)) (by kernel_rfl) (by kernel_rfl) @h
def s35_p14 (K : Value → World → Prop) (B1 : List Value → World → Prop) (B2 : List Value → World → Prop) (t0 t3 t4 t6 t7 t10 t11 t12 t42 t43 t44 : Value) (w : World) : Prop :=
  boI .add t12 (.int .i64 1) (fun t54 w =>
  B2 [t0, t3, t4, t6, t7, t10, t11, t54, t42, t43, t44] w) w
def s35_p14_den (K : Value → World → Prop) (M1 : (Nat → Value) → World → Prop) (M2 : (Nat → Value) → World → Prop) : (Nat → Value) → World → Prop := denL Tryz.prog [(cd (Tryz.f35.body.getD .skip) [1, 1, 1, 1, 1, 0, 1, 0, 0, 1, 1, 0, 0, 1, 1, 0, 0, 1, 1])] M2 (fun i => (bif Nat.beq i 2 then (s35_p13_den K M1) else (bif Nat.beq i 1 then (s35_p13_den K M1) else (bif Nat.beq i 0 then (s35_p12_den K) else (fun _ _ => False))))) (s35_R K)
theorem s35_p14_ok (K : Value → World → Prop) (B1 : List Value → World → Prop) (B2 : List Value → World → Prop) (s : Nat → Value) (w : World) (h : s35_p14 K B1 B2 (s 0) (s 3) (s 4) (s 6) (s 7) (s 10) (s 11) (s 12) (s 42) (s 43) (s 44) w) : Tr (s35_p14_den K (fun s w => B1 [s 0, s 3, s 4, s 6, s 7, s 42, s 43, s 44] w) (fun s w => B2 [s 0, s 3, s 4, s 6, s 7, s 10, s 11, s 12, s 42, s 43, s 44] w) s w) :=
  tr_simple (P := Tryz.prog) (codes := [(cd (Tryz.f35.body.getD .skip) [1, 1, 1, 1, 1, 0, 1, 0, 0, 1, 1, 0, 0, 1, 1, 0, 0, 1, 1])]) (N := (fun s w => B2 [s 0, s 3, s 4, s 6, s 7, s 10, s 11, s 12, s 42, s 43, s 44] w)) (N' := (fun s w => B2 [s 0, s 3, s 4, s 6, s 7, s 10, s 11, s 12, s 42, s 43, s 44] w)) (X := (fun i => (bif Nat.beq i 2 then (fun s w => s35_p13 K B1 (s 0) (s 3) (s 4) (s 6) (s 7) (s 42) (s 43) (s 44) w) else (bif Nat.beq i 1 then (fun s w => s35_p13 K B1 (s 0) (s 3) (s 4) (s 6) (s 7) (s 42) (s 43) (s 44) w) else (bif Nat.beq i 0 then (fun s w => s35_p12 K (s 3) (s 4) w) else (fun _ _ => False)))))) (X' := (fun i => (bif Nat.beq i 2 then (s35_p13_den K (fun s w => B1 [s 0, s 3, s 4, s 6, s 7, s 42, s 43, s 44] w)) else (bif Nat.beq i 1 then (s35_p13_den K (fun s w => B1 [s 0, s 3, s 4, s 6, s 7, s 42, s 43, s 44] w)) else (bif Nat.beq i 0 then (s35_p12_den K) else (fun _ _ => False)))))) (R := s35_R K) (s := s) (w := w) (p := s35_p14 K B1 B2 (s 0) (s 3) (s 4) (s 6) (s 7) (s 10) (s 11) (s 12) (s 42) (s 43) (s 44) w) (q := s35_p14_den K (fun s w => B1 [s 0, s 3, s 4, s 6, s 7, s 42, s 43, s 44] w) (fun s w => B2 [s 0, s 3, s 4, s 6, s 7, s 10, s 11, s 12, s 42, s 43, s 44] w) s w) tr_id (fun i => (tr_bif (fun s w h => s35_p13_ok K B1 s w @h) (tr_bif (fun s w h => s35_p13_ok K B1 s w @h) (tr_bif (fun s w h => s35_p12_ok K s w @h) tr_id)))) (by kernel_rfl) (by kernel_rfl) @h
def s35_p15 (K : Value → World → Prop) (B1 : List Value → World → Prop) (B2 : List Value → World → Prop) (B3 : List Value → World → Prop) (t0 t3 t4 t6 t7 t10 t11 t12 t42 t43 t44 t81 t82 : Value) (w : World) : Prop :=
  boI .lss t82 (.int .i64 3) (fun t83 w =>
  ifb t83
  (iv Tryz.prog 91 t81 t82 (fun t85 w =>
  cl Tryz.prog 114 #[t4, t10, t12, t82] (fun t91 w =>
  boI .neq t85 t91 (fun t92 w =>
  gd t92 false (fun K w => K t85 w) (fun t94 w =>
  gd t92 false (fun K w => K t82 w) (fun t95 w =>
  gd t92 false (fd 2 t11) (fun t96 w =>
  gd t92 false (ixa 3 1 t96 t95) (fun t97 w =>
  gd t92 false (ld1 t97) (fun t98 w =>
  gd t92 false (boI .gtr t94 t98) (fun t99 w =>
  pk t92 (.bool true) t99 (fun t100 w =>
  ifb t100
  (K (.bool false) w)
  (boI .add t82 (.int .i64 1) (fun t101 w =>
  B3 [t0, t3, t4, t6, t7, t10, t11, t12, t42, t43, t44, t81, t101] w) w)) w) w) w) w) w) w) w) w) w) w)
  (s35_p14 K B1 B2 t0 t3 t4 t6 t7 t10 t11 t12 t42 t43 t44 w)) w
def s35_p15_den (K : Value → World → Prop) (M1 : (Nat → Value) → World → Prop) (M2 : (Nat → Value) → World → Prop) (M3 : (Nat → Value) → World → Prop) : (Nat → Value) → World → Prop := denL Tryz.prog [(cd (Tryz.f35.body.getD .skip) [1, 1, 1, 1, 1, 0, 1, 0, 0, 1, 1, 0, 0, 1, 1, 0, 0, 1, 0, 0, 1, 1, 1, 0, 0, 0]), (cd (Tryz.f35.body.getD .skip) [1, 1, 1, 1, 1, 0, 1, 0, 0, 1, 1, 0, 0, 1, 1, 0, 0, 1, 0, 0, 1, 1, 1, 0, 0, 1, 0]), (cd (Tryz.f35.body.getD .skip) [1, 1, 1, 1, 1, 0, 1, 0, 0, 1, 1, 0, 0, 1, 1, 0, 0, 1, 0, 0, 1, 1, 1, 0, 0, 1, 1, 0]), (cd (Tryz.f35.body.getD .skip) [1, 1, 1, 1, 1, 0, 1, 0, 0, 1, 1, 0, 0, 1, 1, 0, 0, 1, 0, 0, 1, 1, 1, 0, 0, 1, 1, 1])] M3 (fun i => (bif Nat.beq i 4 then (s35_p14_den K M1 M2) else (bif Nat.beq i 3 then (s35_p14_den K M1 M2) else (bif Nat.beq i 2 then (s35_p13_den K M1) else (bif Nat.beq i 1 then (s35_p13_den K M1) else (bif Nat.beq i 0 then (s35_p12_den K) else (fun _ _ => False))))))) (s35_R K)
theorem s35_p15_ok (K : Value → World → Prop) (B1 : List Value → World → Prop) (B2 : List Value → World → Prop) (B3 : List Value → World → Prop) (s : Nat → Value) (w : World) (h : s35_p15 K B1 B2 B3 (s 0) (s 3) (s 4) (s 6) (s 7) (s 10) (s 11) (s 12) (s 42) (s 43) (s 44) (s 81) (s 82) w) : Tr (s35_p15_den K (fun s w => B1 [s 0, s 3, s 4, s 6, s 7, s 42, s 43, s 44] w) (fun s w => B2 [s 0, s 3, s 4, s 6, s 7, s 10, s 11, s 12, s 42, s 43, s 44] w) (fun s w => B3 [s 0, s 3, s 4, s 6, s 7, s 10, s 11, s 12, s 42, s 43, s 44, s 81, s 82] w) s w) :=
  tr_simple (P := Tryz.prog) (codes := [(cd (Tryz.f35.body.getD .skip) [1, 1, 1, 1, 1, 0, 1, 0, 0, 1, 1, 0, 0, 1, 1, 0, 0, 1, 0, 0, 1, 1, 1, 0, 0, 0]), (cd (Tryz.f35.body.getD .skip) [1, 1, 1, 1, 1, 0, 1, 0, 0, 1, 1, 0, 0, 1, 1, 0, 0, 1, 0, 0, 1, 1, 1, 0, 0, 1, 0]), (cd (Tryz.f35.body.getD .skip) [1, 1, 1, 1, 1, 0, 1, 0, 0, 1, 1, 0, 0, 1, 1, 0, 0, 1, 0, 0, 1, 1, 1, 0, 0, 1, 1, 0]), (cd (Tryz.f35.body.getD .skip) [1, 1, 1, 1, 1, 0, 1, 0, 0, 1, 1, 0, 0, 1, 1, 0, 0, 1, 0, 0, 1, 1, 1, 0, 0, 1, 1, 1])]) (N := (fun s w => B3 [s 0, s 3, s 4, s 6, s 7, s 10, s 11, s 12, s 42, s 43, s 44, s 81, s 82] w)) (N' := (fun s w => B3 [s 0, s 3, s 4, s 6, s 7, s 10, s 11, s 12, s 42, s 43, s 44, s 81, s 82] w)) (X := (fun i => (bif Nat.beq i 4 then (fun s w => s35_p14 K B1 B2 (s 0) (s 3) (s 4) (s 6) (s 7) (s 10) (s 11) (s 12) (s 42) (s 43) (s 44) w) else (bif Nat.beq i 3 then (fun s w => s35_p14 K B1 B2 (s 0) (s 3) (s 4) (s 6) (s 7) (s 10) (s 11) (s 12) (s 42) (s 43) (s 44) w) else (bif Nat.beq i 2 then (fun s w => s35_p13 K B1 (s 0) (s 3) (s 4) (s 6) (s 7) (s 42) (s 43) (s 44) w) else (bif Nat.beq i 1 then (fun s w => s35_p13 K B1 (s 0) (s 3) (s 4) (s 6) (s 7) (s 42) (s 43) (s 44) w) else (bif Nat.beq i 0 then (fun s w => s35_p12 K (s 3) (s 4) w) else (fun _ _ => False)))))))) (X' := (fun i => (bif Nat.beq i 4 then (s35_p14_den K (fun s w => B1 [s 0, s 3, s 4, s 6, s 7, s 42, s 43, s 44] w) (fun s w => B2 [s 0, s 3, s 4, s 6, s 7, s 10, s 11, s 12, s 42, s 43, s 44] w)) else (bif Nat.beq i 3 then (s35_p14_den K (fun s w => B1 [s 0, s 3, s 4, s 6, s 7, s 42, s 43, s 44] w) (fun s w => B2 [s 0, s 3, s 4, s 6, s 7, s 10, s 11, s 12, s 42, s 43, s 44] w)) else (bif Nat.beq i 2 then (s35_p13_den K (fun s w => B1 [s 0, s 3, s 4, s 6, s 7, s 42, s 43, s 44] w)) else (bif Nat.beq i 1 then (s35_p13_den K (fun s w => B1 [s 0, s 3, s 4, s 6, s 7, s 42, s 43, s 44] w)) else (bif Nat.beq i 0 then (s35_p12_den K) else (fun _ _ => False)))))))) (R := s35_R K) (s := s) (w := w) (p := s35_p15 K B1 B2 B3 (s 0) (s 3) (s 4) (s 6) (s 7) (s 10) (s 11) (s 12) (s 42) (s 43) (s 44) (s 81) (s 82) w) (q := s35_p15_den K (fun s w => B1 [s 0, s 3, s 4, s 6, s 7, s 42, s 43, s 44] w) (fun s w => B2 [s 0, s 3, s 4, s 6, s 7, s 10, s 11, s 12, s 42, s 43, s 44] w) (fun s w => B3 [s 0, s 3, s 4, s 6, s 7, s 10, s 11, s 12, s 42, s 43, s 44, s 81, s 82] w) s w) tr_id (fun i => (tr_bif (fun s w h => s35_p14_ok K B1 B2 s w @h) (tr_bif (fun s w h => s35_p14_ok K B1 B2 s w @h) (tr_bif (fun s w h => s35_p13_ok K B1 s w @h) (tr_bif (fun s w h => s35_p13_ok K B1 s w @h) (tr_bif (fun s w h => s35_p12_ok K s w @h) tr_id)))))) (by kernel_rfl) (by kernel_rfl) @h
def s35_p16_F (K : Value → World → Prop) (B1 : List Value → World → Prop) (B2 : List Value → World → Prop) (B3 : List Value → World → Prop) (l : List Value) (w : World) : Prop :=
  match l with
  | [t0, t3, t4, t6, t7, t10, t11, t12, t42, t43, t44, t81, t82] => s35_p15 K B1 B2 B3 t0 t3 t4 t6 t7 t10 t11 t12 t42 t43 t44 t81 t82 w
  | _ => False
theorem s35_p16_Fe {K : Value → World → Prop} {B1 : List Value → World → Prop} {B2 : List Value → World → Prop} {B3 : List Value → World → Prop} {t0 t3 t4 t6 t7 t10 t11 t12 t42 t43 t44 t81 t82 : Value} {w : World} : s35_p16_F K B1 B2 B3 [t0, t3, t4, t6, t7, t10, t11, t12, t42, t43, t44, t81, t82] w = s35_p15 K B1 B2 B3 t0 t3 t4 t6 t7 t10 t11 t12 t42 t43 t44 t81 t82 w := by kernel_rfl
def s35_p16 (K : Value → World → Prop) (B1 : List Value → World → Prop) (B2 : List Value → World → Prop) (t0 t3 t4 t6 t7 t10 t11 t12 t42 t43 t44 t81 t82 : Value) (w : World) : Prop :=
  LoopL (s35_p16_F K B1 B2) [t0, t3, t4, t6, t7, t10, t11, t12, t42, t43, t44, t81, t82] w
def s35_p16_den (K : Value → World → Prop) (M1 : (Nat → Value) → World → Prop) (M2 : (Nat → Value) → World → Prop) : (Nat → Value) → World → Prop := fun s w => LoopP (fun M3 s w => s35_p15_den K M1 M2 M3 s w) s w
theorem s35_p16_ok (K : Value → World → Prop) (B1 : List Value → World → Prop) (B2 : List Value → World → Prop) (s : Nat → Value) (w : World) (h : s35_p16 K B1 B2 (s 0) (s 3) (s 4) (s 6) (s 7) (s 10) (s 11) (s 12) (s 42) (s 43) (s 44) (s 81) (s 82) w) : Tr (s35_p16_den K (fun s w => B1 [s 0, s 3, s 4, s 6, s 7, s 42, s 43, s 44] w) (fun s w => B2 [s 0, s 3, s 4, s 6, s 7, s 10, s 11, s 12, s 42, s 43, s 44] w) s w) :=
  tr_loop (G := fun N' s w => s35_p15_den K (fun s w => B1 [s 0, s 3, s 4, s 6, s 7, s 42, s 43, s 44] w) (fun s w => B2 [s 0, s 3, s 4, s 6, s 7, s 10, s 11, s 12, s 42, s 43, s 44] w) N' s w) (F := s35_p16_F K B1 B2) (sel := fun s => [s 0, s 3, s 4, s 6, s 7, s 10, s 11, s 12, s 42, s 43, s 44, s 81, s 82]) (s := s) (w := w) (p := s35_p16 K B1 B2 (s 0) (s 3) (s 4) (s 6) (s 7) (s 10) (s 11) (s 12) (s 42) (s 43) (s 44) (s 81) (s 82) w) (q := s35_p16_den K (fun s w => B1 [s 0, s 3, s 4, s 6, s 7, s 42, s 43, s 44] w) (fun s w => B2 [s 0, s 3, s 4, s 6, s 7, s 10, s 11, s 12, s 42, s 43, s 44] w) s w) (fun B s w h => s35_p15_ok K B1 B2 B s w @h) (by kernel_rfl) (by kernel_rfl) @h
def s35_p17 (K : Value → World → Prop) (B1 : List Value → World → Prop) (B2 : List Value → World → Prop) (t0 t3 t4 t6 t7 t10 t11 t12 t13 t42 t43 t44 t79 : Value) (w : World) : Prop :=
  ifb t79
  (K (.bool false) w)
  (fd 14 t13 (fun t80 w =>
  ldn 3 t80 (fun t81 w =>
  s35_p16 K B1 B2 t0 t3 t4 t6 t7 t10 t11 t12 t42 t43 t44 t81 (.int .i64 0) w) w) w)
def s35_p17_den (K : Value → World → Prop) (M1 : (Nat → Value) → World → Prop) (M2 : (Nat → Value) → World → Prop) : (Nat → Value) → World → Prop := denL Tryz.prog [(cd (Tryz.f35.body.getD .skip) [1, 1, 1, 1, 1, 0, 1, 0, 0, 1, 1, 0, 0, 1, 1, 0, 0, 1, 0, 0, 1, 0, 1]), (cd (Tryz.f35.body.getD .skip) [1, 1, 1, 1, 1, 0, 1, 0, 0, 1, 1, 0, 0, 1, 1, 0, 0, 1, 0, 0, 1, 1, 0])] (s35_p16_den K M1 M2) (fun i => (bif Nat.beq i 3 then (s35_p14_den K M1 M2) else (bif Nat.beq i 2 then (s35_p13_den K M1) else (bif Nat.beq i 1 then (s35_p13_den K M1) else (bif Nat.beq i 0 then (s35_p12_den K) else (fun _ _ => False)))))) (s35_R K)
theorem s35_p17_ok (K : Value → World → Prop) (B1 : List Value → World → Prop) (B2 : List Value → World → Prop) (s : Nat → Value) (w : World) (h : s35_p17 K B1 B2 (s 0) (s 3) (s 4) (s 6) (s 7) (s 10) (s 11) (s 12) (s 13) (s 42) (s 43) (s 44) (s 79) w) : Tr (s35_p17_den K (fun s w => B1 [s 0, s 3, s 4, s 6, s 7, s 42, s 43, s 44] w) (fun s w => B2 [s 0, s 3, s 4, s 6, s 7, s 10, s 11, s 12, s 42, s 43, s 44] w) s w) :=
  tr_simple (P := Tryz.prog) (codes := [(cd (Tryz.f35.body.getD .skip) [1, 1, 1, 1, 1, 0, 1, 0, 0, 1, 1, 0, 0, 1, 1, 0, 0, 1, 0, 0, 1, 0, 1]), (cd (Tryz.f35.body.getD .skip) [1, 1, 1, 1, 1, 0, 1, 0, 0, 1, 1, 0, 0, 1, 1, 0, 0, 1, 0, 0, 1, 1, 0])]) (N := (fun s w => s35_p16 K B1 B2 (s 0) (s 3) (s 4) (s 6) (s 7) (s 10) (s 11) (s 12) (s 42) (s 43) (s 44) (s 81) (s 82) w)) (N' := (s35_p16_den K (fun s w => B1 [s 0, s 3, s 4, s 6, s 7, s 42, s 43, s 44] w) (fun s w => B2 [s 0, s 3, s 4, s 6, s 7, s 10, s 11, s 12, s 42, s 43, s 44] w))) (X := (fun i => (bif Nat.beq i 3 then (fun s w => s35_p14 K B1 B2 (s 0) (s 3) (s 4) (s 6) (s 7) (s 10) (s 11) (s 12) (s 42) (s 43) (s 44) w) else (bif Nat.beq i 2 then (fun s w => s35_p13 K B1 (s 0) (s 3) (s 4) (s 6) (s 7) (s 42) (s 43) (s 44) w) else (bif Nat.beq i 1 then (fun s w => s35_p13 K B1 (s 0) (s 3) (s 4) (s 6) (s 7) (s 42) (s 43) (s 44) w) else (bif Nat.beq i 0 then (fun s w => s35_p12 K (s 3) (s 4) w) else (fun _ _ => False))))))) (X' := (fun i => (bif Nat.beq i 3 then (s35_p14_den K (fun s w => B1 [s 0, s 3, s 4, s 6, s 7, s 42, s 43, s 44] w) (fun s w => B2 [s 0, s 3, s 4, s 6, s 7, s 10, s 11, s 12, s 42, s 43, s 44] w)) else (bif Nat.beq i 2 then (s35_p13_den K (fun s w => B1 [s 0, s 3, s 4, s 6, s 7, s 42, s 43, s 44] w)) else (bif Nat.beq i 1 then (s35_p13_den K (fun s w => B1 [s 0, s 3, s 4, s 6, s 7, s 42, s 43, s 44] w)) else (bif Nat.beq i 0 then (s35_p12_den K) else (fun _ _ => False))))))) (R := s35_R K) (s := s) (w := w) (p := s35_p17 K B1 B2 (s 0) (s 3) (s 4) (s 6) (s 7) (s 10) (s 11) (s 12) (s 13) (s 42) (s 43) (s 44) (s 79) w) (q := s35_p17_den K (fun s w => B1 [s 0, s 3, s 4, s 6, s 7, s 42, s 43, s 44] w) (fun s w => B2 [s 0, s 3, s 4, s 6, s 7, s 10, s 11, s 12, s 42, s 43, s 44] w) s w) (fun s w h => s35_p16_ok K B1 B2 s w @h) (fun i => (tr_bif (fun s w h => s35_p14_ok K B1 B2 s w @h) (tr_bif (fun s w h => s35_p13_ok K B1 s w @h) (tr_bif (fun s w h => s35_p13_ok K B1 s w @h) (tr_bif (fun s w h => s35_p12_ok K s w @h) tr_id))))) (by kernel_rfl) (by kernel_rfl) @h
def s35_p18_d (K : Value → World → Prop) (B1 : List Value → World → Prop) (B2 : List Value → World → Prop) (J : World → Prop) (t0 t3 t4 t6 t7 t10 t11 t12 t13 t14 t42 t43 t44 : Value) (w0 w : World) : Prop :=
  boF Tryz.prog true .neq t14 .nilIface (fun t63 _ =>
  gd t63 false (fd 13 t13) (fun t65 _ =>
  Go.Sh.R.qw J (gd t63 false (ld1 t65)) (fun t66 =>
  gd t63 false (fun K w => K t4 w) (fun t67 _ =>
  gd t63 false (fun K w => K t10 w) (fun t68 _ =>
  gd t63 false (fun K w => K t12 w) (fun t69 _ =>
  gd t63 false (cl Tryz.prog 113 #[t67, t68, t69]) (fun t70 w =>
  J w ∧
  gd t63 false (boI .neq t66 t70) (fun t71 w =>
  pk t63 (.bool true) t71 (fun t72 w =>
  (gd t72 false (fd 13 t13) (fun t74 w =>
  (gd t72 false (ld1 t74) (fun t75 w =>
  gd t72 false (fd 0 t11) (fun t76 w =>
  gd t72 false (ld1 t76) (fun t77 w =>
  gd t72 false (boI .gtr t75 t77) (fun t78 w =>
  pk t72 (.bool true) t78 (fun t79 w =>
  s35_p17 K B1 B2 t0 t3 t4 t6 t7 t10 t11 t12 t13 t42 t43 t44 t79 w) w) w) w) w) w) ∧
  (gd t72 false (fd 0 t11) (fun t76_2 w =>
  (gd t72 false (ld1 t74) (fun t75_2 w =>
  gd t72 false (ld1 t76_2) (fun t77_2 w =>
  gd t72 false (boI .gtr t75_2 t77_2) (fun t78_2 w =>
  pk t72 (.bool true) t78_2 (fun t79_2 w =>
  s35_p17 K B1 B2 t0 t3 t4 t6 t7 t10 t11 t12 t13 t42 t43 t44 t79_2 w) w) w) w) w) ∧
  (gd t72 false (ld1 t76_2) (fun t77_3 w =>
  gd t72 false (ld1 t74) (fun t75_3 w =>
  gd t72 false (boI .gtr t75_3 t77_3) (fun t78_3 w =>
  pk t72 (.bool true) t78_3 (fun t79_3 w =>
  s35_p17 K B1 B2 t0 t3 t4 t6 t7 t10 t11 t12 t13 t42 t43 t44 t79_3 w) w) w) w) w)) w)) w) ∧
  (gd t72 false (fd 0 t11) (fun t76_3 w =>
  (gd t72 false (fd 13 t13) (fun t74_2 w =>
  (gd t72 false (ld1 t74_2) (fun t75_4 w =>
  gd t72 false (ld1 t76_3) (fun t77_4 w =>
  gd t72 false (boI .gtr t75_4 t77_4) (fun t78_4 w =>
  pk t72 (.bool true) t78_4 (fun t79_4 w =>
  s35_p17 K B1 B2 t0 t3 t4 t6 t7 t10 t11 t12 t13 t42 t43 t44 t79_4 w) w) w) w) w) ∧
  (gd t72 false (ld1 t76_3) (fun t77_5 w =>
  gd t72 false (ld1 t74_2) (fun t75_5 w =>
  gd t72 false (boI .gtr t75_5 t77_5) (fun t78_5 w =>
  pk t72 (.bool true) t78_5 (fun t79_5 w =>
  s35_p17 K B1 B2 t0 t3 t4 t6 t7 t10 t11 t12 t13 t42 t43 t44 t79_5 w) w) w) w) w)) w) ∧
  (gd t72 false (ld1 t76_3) (fun t77_6 w =>
  gd t72 false (fd 13 t13) (fun t74_3 w =>
  gd t72 false (ld1 t74_3) (fun t75_6 w =>
  gd t72 false (boI .gtr t75_6 t77_6) (fun t78_6 w =>
  pk t72 (.bool true) t78_6 (fun t79_6 w =>
  s35_p17 K B1 B2 t0 t3 t4 t6 t7 t10 t11 t12 t13 t42 t43 t44 t79_6 w) w) w) w) w) w)) w)) w) w) w) w0) w0) w0)) w0) w0
def s35_p18 (K : Value → World → Prop) (B1 : List Value → World → Prop) (B2 : List Value → World → Prop) (t0 t3 t4 t6 t7 t10 t11 t12 t13 t14 t42 t43 t44 : Value) (w : World) : Prop := ∃ J : World → Prop, J (drw w) ∧ s35_p18_d K B1 B2 J t0 t3 t4 t6 t7 t10 t11 t12 t13 t14 t42 t43 t44 (drw w) (drw w)
def s35_p18_den (K : Value → World → Prop) (M1 : (Nat → Value) → World → Prop) (M2 : (Nat → Value) → World → Prop) : (Nat → Value) → World → Prop := denL Tryz.prog [(cd (Tryz.f35.body.getD .skip) [1, 1, 1, 1, 1, 0, 1, 0, 0, 1, 1, 0, 0, 1, 1, 0, 0, 1, 0, 0, 1, 0, 0])] (s35_p17_den K M1 M2) (fun i => (bif Nat.beq i 3 then (s35_p14_den K M1 M2) else (bif Nat.beq i 2 then (s35_p13_den K M1) else (bif Nat.beq i 1 then (s35_p13_den K M1) else (bif Nat.beq i 0 then (s35_p12_den K) else (fun _ _ => False)))))) (s35_R K)
theorem s35_p18_ok (K : Value → World → Prop) (B1 : List Value → World → Prop) (B2 : List Value → World → Prop) (s : Nat → Value) (w : World) (h : s35_p18 K B1 B2 (s 0) (s 3) (s 4) (s 6) (s 7) (s 10) (s 11) (s 12) (s 13) (s 14) (s 42) (s 43) (s 44) w) : Tr (s35_p18_den K (fun s w => B1 [s 0, s 3, s 4, s 6, s 7, s 42, s 43, s 44] w) (fun s w => B2 [s 0, s 3, s 4, s 6, s 7, s 10, s 11, s 12, s 42, s 43, s 44] w) s w) :=
  Go.Sh.R.tr_drawR (P := Tryz.prog) (ops := (ro (cd (Tryz.f35.body.getD .skip) [1, 1, 1, 1, 1, 0, 1, 0, 0, 1, 1, 0, 0, 1, 1, 0, 0, 1, 0, 0, 1, 0, 0]))) (ms := [0, 1, 3, 7, 15, 7, 7, 7, 231, 511, 1023, 2047, 4095, 8191, 4095, 20479, 65535, 131071]) (cs := [0, 1, 2, 3, 4, 5, 6, 7]) (N := (fun s w => s35_p17 K B1 B2 (s 0) (s 3) (s 4) (s 6) (s 7) (s 10) (s 11) (s 12) (s 13) (s 42) (s 43) (s 44) (s 79) w)) (N' := (s35_p17_den K (fun s w => B1 [s 0, s 3, s 4, s 6, s 7, s 42, s 43, s 44] w) (fun s w => B2 [s 0, s 3, s 4, s 6, s 7, s 10, s 11, s 12, s 42, s 43, s 44] w))) (s := s) (w := w) (p := fun J => s35_p18_d K B1 B2 J (s 0) (s 3) (s 4) (s 6) (s 7) (s 10) (s 11) (s 12) (s 13) (s 14) (s 42) (s 43) (s 44) (drw w) (drw w)) (q := s35_p18_den K (fun s w => B1 [s 0, s 3, s 4, s 6, s 7, s 42, s 43, s 44] w) (fun s w => B2 [s 0, s 3, s 4, s 6, s 7, s 10, s 11, s 12, s 42, s 43, s 44] w) s w) (by kernel_rfl) (by kernel_rfl) (fun s w h => s35_p17_ok K B1 B2 s w @h) (by kernel_rfl) (by kernel_rfl) @h
def s35_p19 (K : Value → World → Prop) (B1 : List Value → World → Prop) (B2 : List Value → World → Prop) (t0 t3 t4 t6 t7 t10 t11 t12 t42 t43 t44 : Value) (w : World) : Prop :=
  cl Tryz.prog 112 #[t0, t10, t12] (fun t59 w =>
  exq t59 0 (fun t60 w =>
  exq t59 1 (fun t61 w =>
  nw 94 #[(.int .i64 0), (.int .u8 0), (.int .i64 0), (.int .i64 0), (.int .i64 0), (.int .i64 0), (.int .i64 0), (.slice none 0 0), (.int .i64 0), (.int .i64 0), (.int .i64 0), (.slice none 0 0), (.int .i64 0), (.int .i64 0), (.int .i64 0), (.int .i64 0), (.int .i64 0), (.int .i64 0), (.slice none 0 0), (.int .i64 0), (.int .i64 0), (.int .i64 0), (.int .i64 0), (.int .i64 0), (.int .i64 0), (.int .i64 0), (.int .i64 0), (.int .i64 0), (.int .i64 0), (.int .i64 0), (.int .i64 0), (.int .i64 0), (.int .i64 0), (.int .i64 0)] (fun t13 w =>
  stn 34 t13 t60 (fun w =>
  s35_p18 K B1 B2 t0 t3 t4 t6 t7 t10 t11 t12 t13 t61 t42 t43 t44 w) w) w) w) w) w
def s35_p19_den (K : Value → World → Prop) (M1 : (Nat → Value) → World → Prop) (M2 : (Nat → Value) → World → Prop) : (Nat → Value) → World → Prop := denL Tryz.prog [(cd (Tryz.f35.body.getD .skip) [1, 1, 1, 1, 1, 0, 1, 0, 0, 1, 1, 0, 0, 1, 1, 0, 0, 1, 0, 0, 0])] (s35_p18_den K M1 M2) (fun i => (bif Nat.beq i 3 then (s35_p14_den K M1 M2) else (bif Nat.beq i 2 then (s35_p13_den K M1) else (bif Nat.beq i 1 then (s35_p13_den K M1) else (bif Nat.beq i 0 then (s35_p12_den K) else (fun _ _ => False)))))) (s35_R K)
theorem s35_p19_ok (K : Value → World → Prop) (B1 : List Value → World → Prop) (B2 : List Value → World → Prop) (s : Nat → Value) (w : World) (h : s35_p19 K B1 B2 (s 0) (s 3) (s 4) (s 6) (s 7) (s 10) (s 11) (s 12) (s 42) (s 43) (s 44) w) : Tr (s35_p19_den K (fun s w => B1 [s 0, s 3, s 4, s 6, s 7, s 42, s 43, s 44] w) (fun s w => B2 [s 0, s 3, s 4, s 6, s 7, s 10, s 11, s 12, s 42, s 43, s 44] w) s w) :=
  tr_simple (P := Tryz.prog) (codes := [(cd (Tryz.f35.body.getD .skip) [1, 1, 1, 1, 1, 0, 1, 0, 0, 1, 1, 0, 0, 1, 1, 0, 0, 1, 0, 0, 0])]) (N := (fun s w => s35_p18 K B1 B2 (s 0) (s 3) (s 4) (s 6) (s 7) (s 10) (s 11) (s 12) (s 13) (s 14) (s 42) (s 43) (s 44) w)) (N' := (s35_p18_den K (fun s w => B1 [s 0, s 3, s 4, s 6, s 7, s 42, s 43, s 44] w) (fun s w => B2 [s 0, s 3, s 4, s 6, s 7, s 10, s 11, s 12, s 42, s 43, s 44] w))) (X := (fun i => (bif Nat.beq i 3 then (fun s w => s35_p14 K B1 B2 (s 0) (s 3) (s 4) (s 6) (s 7) (s 10) (s 11) (s 12) (s 42) (s 43) (s 44) w) else (bif Nat.beq i 2 then (fun s w => s35_p13 K B1 (s 0) (s 3) (s 4) (s 6) (s 7) (s 42) (s 43) (s 44) w) else (bif Nat.beq i 1 then (fun s w => s35_p13 K B1 (s 0) (s 3) (s 4) (s 6) (s 7) (s 42) (s 43) (s 44) w) else (bif Nat.beq i 0 then (fun s w => s35_p12 K (s 3) (s 4) w) else (fun _ _ => False))))))) (X' := (fun i => (bif Nat.beq i 3 then (s35_p14_den K (fun s w => B1 [s 0, s 3, s 4, s 6, s 7, s 42, s 43, s 44] w) (fun s w => B2 [s 0, s 3, s 4, s 6, s 7, s 10, s 11, s 12, s 42, s 43, s 44] w)) else (bif Nat.beq i 2 then (s35_p13_den K (fun s w => B1 [s 0, s 3, s 4, s 6, s 7, s 42, s 43, s 44] w)) else (bif Nat.beq i 1 then (s35_p13_den K (fun s w => B1 [s 0, s 3, s 4, s 6, s 7, s 42, s 43, s 44] w)) else (bif Nat.beq i 0 then (s35_p12_den K) else (fun _ _ => False))))))) (R := s35_R K) (s := s) (w := w) (p := s35_p19 K B1 B2 (s 0) (s 3) (s 4) (s 6) (s 7) (s 10) (s 11) (s 12) (s 42) (s 43) (s 44) w) (q := s35_p19_den K (fun s w => B1 [s 0, s 3, s 4, s 6, s 7, s 42, s 43, s 44] w) (fun s w => B2 [s 0, s 3, s 4, s 6, s 7, s 10, s 11, s 12, s 42, s 43, s 44] w) s w) (fun s w h => s35_p18_ok K B1 B2 s w @h) (fun i => (tr_bif (fun s w h => s35_p14_ok K B1 B2 s w @h) (tr_bif (fun s w h => s35_p13_ok K B1 s w @h) (tr_bif (fun s w h => s35_p13_ok K B1 s w @h) (tr_bif (fun s w h => s35_p12_ok K s w @h) tr_id))))) (by kernel_rfl) (by kernel_rfl) @h
def s35_p20 (K : Value → World → Prop) (B1 : List Value → World → Prop) (B2 : List Value → World → Prop) (t0 t3 t4 t6 t7 t10 t11 t12 t42 t43 t44 : Value) (w : World) : Prop :=
  boI .leq t12 t7 (fun t52 w =>
  ifb t52
  (s35_p19 K B1 B2 t0 t3 t4 t6 t7 t10 t11 t12 t42 t43 t44 w)
  (s35_p13 K B1 t0 t3 t4 t6 t7 t42 t43 t44 w)) w
def s35_p20_den (K : Value → World → Prop) (M1 : (Nat → Value) → World → Prop) (M2 : (Nat → Value) → World → Prop) : (Nat → Value) → World → Prop := denL Tryz.prog [(cd (Tryz.f35.body.getD .skip) [1, 1, 1, 1, 1, 0, 1, 0, 0, 1, 1, 0, 0, 1, 1, 0, 0, 0, 0]), (cd (Tryz.f35.body.getD .skip) [1, 1, 1, 1, 1, 0, 1, 0, 0, 1, 1, 0, 0, 1, 1, 0, 0, 0, 1])] (s35_p19_den K M1 M2) (fun i => (bif Nat.beq i 2 then (s35_p13_den K M1) else (bif Nat.beq i 1 then (s35_p13_den K M1) else (bif Nat.beq i 0 then (s35_p12_den K) else (fun _ _ => False))))) (s35_R K)
theorem s35_p20_ok (K : Value → World → Prop) (B1 : List Value → World → Prop) (B2 : List Value → World → Prop) (s : Nat → Value) (w : World) (h : s35_p20 K B1 B2 (s 0) (s 3) (s 4) (s 6) (s 7) (s 10) (s 11) (s 12) (s 42) (s 43) (s 44) w) : Tr (s35_p20_den K (fun s w => B1 [s 0, s 3, s 4, s 6, s 7, s 42, s 43, s 44] w) (fun s w => B2 [s 0, s 3, s 4, s 6, s 7, s 10, s 11, s 12, s 42, s 43, s 44] w) s w) :=
  tr_simple (P := Tryz.prog) (codes := [(cd (Tryz.f35.body.getD .skip) [1, 1, 1, 1, 1, 0, 1, 0, 0, 1, 1, 0, 0, 1, 1, 0, 0, 0, 0]), (cd (Tryz.f35.body.getD .skip) [1, 1, 1, 1, 1, 0, 1, 0, 0, 1, 1, 0, 0, 1, 1, 0, 0, 0, 1])]) (N := (fun s w => s35_p19 K B1 B2 (s 0) (s 3) (s 4) (s 6) (s 7) (s 10) (s 11) (s 12) (s 42) (s 43) (s 44) w)) (N' := (s35_p19_den K (fun s w => B1 [s 0, s 3, s 4, s 6, s 7, s 42, s 43, s 44] w) (fun s w => B2 [s 0, s 3, s 4, s 6, s 7, s 10, s 11, s 12, s 42, s 43, s 44] w))) (X := (fun i => (bif Nat.beq i 2 then (fun s w => s35_p13 K B1 (s 0) (s 3) (s 4) (s 6) (s 7) (s 42) (s 43) (s 44) w) else (bif Nat.beq i 1 then (fun s w => s35_p13 K B1 (s 0) (s 3) (s 4) (s 6) (s 7) (s 42) (s 43) (s 44) w) else (bif Nat.beq i 0 then (fun s w => s35_p12 K (s 3) (s 4) w) else (fun _ _ => False)))))) (X' := (fun i => (bif Nat.beq i 2 then (s35_p13_den K (fun s w => B1 [s 0, s 3, s 4, s 6, s 7, s 42, s 43, s 44] w)) else (bif Nat.beq i 1 then (s35_p13_den K (fun s w => B1 [s 0, s 3, s 4, s 6, s 7, s 42, s 43, s 44] w)) else (bif Nat.beq i 0 then (s35_p12_den K) else (fun _ _ => False)))))) (R := s35_R K) (s := s) (w := w) (p := s35_p20 K B1 B2 (s 0) (s 3) (s 4) (s 6) (s 7) (s 10) (s 11) (s 12) (s 42) (s 43) (s 44) w) (q := s35_p20_den K (fun s w => B1 [s 0, s 3, s 4, s 6, s 7, s 42, s 43, s 44] w) (fun s w => B2 [s 0, s 3, s 4, s 6, s 7, s 10, s 11, s 12, s 42, s 43, s 44] w) s w) (fun s w h => s35_p19_ok K B1 B2 s w @h) (fun i => (tr_bif (fun s w h => s35_p13_ok K B1 s w @h) (tr_bif (fun s w h => s35_p13_ok K B1 s w @h) (tr_bif (fun s w h => s35_p12_ok K s w @h) tr_id)))) (by kernel_rfl) (by kernel_rfl) @h
def s35_p21_F (K : Value → World → Prop) (B1 : List Value → World → Prop) (B2 : List Value → World → Prop) (l : List Value) (w : World) : Prop :=
  match l with
  | [t0, t3, t4, t6, t7, t10, t11, t12, t42, t43, t44] => s35_p20 K B1 B2 t0 t3 t4 t6 t7 t10 t11 t12 t42 t43 t44 w
  | _ => False
theorem s35_p21_Fe {K : Value → World → Prop} {B1 : List Value → World → Prop} {B2 : List Value → World → Prop} {t0 t3 t4 t6 t7 t10 t11 t12 t42 t43 t44 : Value} {w : World} : s35_p21_F K B1 B2 [t0, t3, t4, t6, t7, t10, t11, t12, t42, t43, t44] w = s35_p20 K B1 B2 t0 t3 t4 t6 t7 t10 t11 t12 t42 t43 t44 w := by kernel_rfl
def s35_p21 (K : Value → World → Prop) (B1 : List Value → World → Prop) (t0 t3 t4 t6 t7 t10 t11 t12 t42 t43 t44 : Value) (w : World) : Prop :=
  LoopL (s35_p21_F K B1) [t0, t3, t4, t6, t7, t10, t11, t12, t42, t43, t44] w
def s35_p21_den (K : Value → World → Prop) (M1 : (Nat → Value) → World → Prop) : (Nat → Value) → World → Prop := fun s w => LoopP (fun M2 s w => s35_p20_den K M1 M2 s w) s w
theorem s35_p21_ok (K : Value → World → Prop) (B1 : List Value → World → Prop) (s : Nat → Value) (w : World) (h : s35_p21 K B1 (s 0) (s 3) (s 4) (s 6) (s 7) (s 10) (s 11) (s 12) (s 42) (s 43) (s 44) w) : Tr (s35_p21_den K (fun s w => B1 [s 0, s 3, s 4, s 6, s 7, s 42, s 43, s 44] w) s w) :=
  tr_loop (G := fun N' s w => s35_p20_den K (fun s w => B1 [s 0, s 3, s 4, s 6, s 7, s 42, s 43, s 44] w) N' s w) (F := s35_p21_F K B1) (sel := fun s => [s 0, s 3, s 4, s 6, s 7, s 10, s 11, s 12, s 42, s 43, s 44]) (s := s) (w := w) (p := s35_p21 K B1 (s 0) (s 3) (s 4) (s 6) (s 7) (s 10) (s 11) (s 12) (s 42) (s 43) (s 44) w) (q := s35_p21_den K (fun s w => B1 [s 0, s 3, s 4, s 6, s 7, s 42, s 43, s 44] w) s w) (fun B s w h => s35_p20_ok K B1 B s w @h) (by kernel_rfl) (by kernel_rfl) @h
def s35_p22 (K : Value → World → Prop) (B1 : List Value → World → Prop) (t0 t3 t4 t6 t7 t42 t43 t44 : Value) (w : World) : Prop :=
  ixs 5 t42 t44 (fun t47 w =>
  ldn 5 t47 (fun t48 w =>
  nw 113 #[(.int .i64 0), (.int .i64 0), (.int .i64 0), (.int .i64 0), (.int .i64 0)] (fun t11 w =>
  stn 5 t11 t48 (fun w =>
  s35_p21 K B1 t0 t3 t4 t6 t7 t44 t11 t6 t42 t43 t44 w) w) w) w) w
def s35_p22_den (K : Value → World → Prop) (M1 : (Nat → Value) → World → Prop) : (Nat → Value) → World → Prop := denL Tryz.prog [(cd (Tryz.f35.body.getD .skip) [1, 1, 1, 1, 1, 0, 1, 0, 0, 1, 1, 0, 0, 0]), (cd (Tryz.f35.body.getD .skip) [1, 1, 1, 1, 1, 0, 1, 0, 0, 1, 1, 0, 0, 1, 0])] (s35_p21_den K M1) (fun i => (bif Nat.beq i 1 then (s35_p13_den K M1) else (bif Nat.beq i 0 then (s35_p12_den K) else (fun _ _ => False)))) (s35_R K)
theorem s35_p22_ok (K : Value → World → Prop) (B1 : List Value → World → Prop) (s : Nat → Value) (w : World) (h : s35_p22 K B1 (s 0) (s 3) (s 4) (s 6) (s 7) (s 42) (s 43) (s 44) w) : Tr (s35_p22_den K (fun s w => B1 [s 0, s 3, s 4, s 6, s 7, s 42, s 43, s 44] w) s w) :=
  tr_simple (P := Tryz.prog) (codes := [(cd (Tryz.f35.body.getD .skip) [1, 1, 1, 1, 1, 0, 1, 0, 0, 1, 1, 0, 0, 0]), (cd (Tryz.f35.body.getD .skip) [1, 1, 1, 1, 1, 0, 1, 0, 0, 1, 1, 0, 0, 1, 0])]) (N := (fun s w => s35_p21 K B1 (s 0) (s 3) (s 4) (s 6) (s 7) (s 10) (s 11) (s 12) (s 42) (s 43) (s 44) w)) (N' := (s35_p21_den K (fun s w => B1 [s 0, s 3, s 4, s 6, s 7, s 42, s 43, s 44] w))) (X := (fun i => (bif Nat.beq i 1 then (fun s w => s35_p13 K B1 (s 0) (s 3) (s 4) (s 6) (s 7) (s 42) (s 43) (s 44) w) else (bif Nat.beq i 0 then (fun s w => s35_p12 K (s 3) (s 4) w) else (fun _ _ => False))))) (X' := (fun i => (bif Nat.beq i 1 then (s35_p13_den K (fun s w => B1 [s 0, s 3, s 4, s 6, s 7, s 42, s 43, s 44] w)) else (bif Nat.beq i 0 then (s35_p12_den K) else (fun _ _ => False))))) (R := s35_R K) (s := s) (w := w) (p := s35_p22 K B1 (s 0) (s 3) (s 4) (s 6) (s 7) (s 42) (s 43) (s 44) w) (q := s35_p22_den K (fun s w => B1 [s 0, s 3, s 4, s 6, s 7, s 42, s 43, s 44] w) s w) (fun s w h => s35_p21_ok K B1 s w @h) (fun i => (tr_bif (fun s w h => s35_p13_ok K B1 s w @h) (tr_bif (fun s w h => s35_p12_ok K s w @h) tr_id))) (by kernel_rfl) (by kernel_rfl) @h
def s35_p23 (K : Value → World → Prop) (B1 : List Value → World → Prop) (t0 t3 t4 t6 t7 t42 t43 t44 : Value) (w : World) : Prop :=
  boI .lss t44 t43 (fun t45 w =>
  ifb t45
  (s35_p22 K B1 t0 t3 t4 t6 t7 t42 t43 t44 w)
  (s35_p12 K t3 t4 w)) w
def s35_p23_den (K : Value → World → Prop) (M1 : (Nat → Value) → World → Prop) : (Nat → Value) → World → Prop := denL Tryz.prog [(cd (Tryz.f35.body.getD .skip) [1, 1, 1, 1, 1, 0, 1, 0, 0, 0]), (cd (Tryz.f35.body.getD .skip) [1, 1, 1, 1, 1, 0, 1, 0, 0, 1, 0])] (s35_p22_den K M1) (fun i => (bif Nat.beq i 0 then (s35_p12_den K) else (fun _ _ => False))) (s35_R K)
theorem s35_p23_ok (K : Value → World → Prop) (B1 : List Value → World → Prop) (s : Nat → Value) (w : World) (h : s35_p23 K B1 (s 0) (s 3) (s 4) (s 6) (s 7) (s 42) (s 43) (s 44) w) : Tr (s35_p23_den K (fun s w => B1 [s 0, s 3, s 4, s 6, s 7, s 42, s 43, s 44] w) s w) :=
  tr_simple (P := Tryz.prog) (codes := [(cd (Tryz.f35.body.getD .skip) [1, 1, 1, 1, 1, 0, 1, 0, 0, 0]), (cd (Tryz.f35.body.getD .skip) [1, 1, 1, 1, 1, 0, 1, 0, 0, 1, 0])]) (N := (fun s w => s35_p22 K B1 (s 0) (s 3) (s 4) (s 6) (s 7) (s 42) (s 43) (s 44) w)) (N' := (s35_p22_den K (fun s w => B1 [s 0, s 3, s 4, s 6, s 7, s 42, s 43, s 44] w))) (X := (fun i => (bif Nat.beq i 0 then (fun s w => s35_p12 K (s 3) (s 4) w) else (fun _ _ => False)))) (X' := (fun i => (bif Nat.beq i 0 then (s35_p12_den K) else (fun _ _ => False)))) (R := s35_R K) (s := s) (w := w) (p := s35_p23 K B1 (s 0) (s 3) (s 4) (s 6) (s 7) (s 42) (s 43) (s 44) w) (q := s35_p23_den K (fun s w => B1 [s 0, s 3, s 4, s 6, s 7, s 42, s 43, s 44] w) s w) (fun s w h => s35_p22_ok K B1 s w @h) (fun i => (tr_bif (fun s w h => s35_p12_ok K s w @h) tr_id)) (by kernel_rfl) (by kernel_rfl) @h
def s35_p24_F (K : Value → World → Prop) (B1 : List Value → World → Prop) (l : List Value) (w : World) : Prop :=
  match l with
  | [t0, t3, t4, t6, t7, t42, t43, t44] => s35_p23 K B1 t0 t3 t4 t6 t7 t42 t43 t44 w
  | _ => False
theorem s35_p24_Fe {K : Value → World → Prop} {B1 : List Value → World → Prop} {t0 t3 t4 t6 t7 t42 t43 t44 : Value} {w : World} : s35_p24_F K B1 [t0, t3, t4, t6, t7, t42, t43, t44] w = s35_p23 K B1 t0 t3 t4 t6 t7 t42 t43 t44 w := by kernel_rfl
def s35_p24 (K : Value → World → Prop) (t0 t3 t4 t6 t7 t42 t43 t44 : Value) (w : World) : Prop :=
  LoopL (s35_p24_F K) [t0, t3, t4, t6, t7, t42, t43, t44] w
def s35_p24_den (K : Value → World → Prop) : (Nat → Value) → World → Prop := fun s w => LoopP (fun M1 s w => s35_p23_den K M1 s w) s w
theorem s35_p24_ok (K : Value → World → Prop) (s : Nat → Value) (w : World) (h : s35_p24 K (s 0) (s 3) (s 4) (s 6) (s 7) (s 42) (s 43) (s 44) w) : Tr (s35_p24_den K s w) :=
  tr_loop (G := fun N' s w => s35_p23_den K N' s w) (F := s35_p24_F K) (sel := fun s => [s 0, s 3, s 4, s 6, s 7, s 42, s 43, s 44]) (s := s) (w := w) (p := s35_p24 K (s 0) (s 3) (s 4) (s 6) (s 7) (s 42) (s 43) (s 44) w) (q := s35_p24_den K s w) (fun B s w h => s35_p23_ok K B s w @h) (by kernel_rfl) (by kernel_rfl) @h
def s35_p25 (K : Value → World → Prop) (t0 : Value) (w : World) : Prop :=
  cl Tryz.prog 21 #[] (fun t22 w =>
  nw 34 #[(.slice none 0 0), (.slice none 0 0), (.int .i64 0), (.int .i64 0), (.int .i64 0), (.int .i64 0), (.int .i64 0), (.int .i64 0), (.int .i64 0), (.int .i64 0), (.int .i64 0), (.int .i64 0), (.int .i64 0), (.int .i64 0)] (fun t3 w =>
  stn 14 t3 t22 (fun w =>
  cl Tryz.prog 41 #[t0] (fun t25 w =>
  exq t25 0 (fun t26 w =>
  exq t25 1 (fun t27 w =>
  cl Tryz.prog 42 #[t0] (fun t30 w =>
  exq t30 0 (fun t31 w =>
  exq t30 1 (fun t32 w =>
  exq t30 2 (fun t33 w =>
  exq t30 3 (fun t34 w =>
  boF Tryz.prog true .neq t27 .nilIface (fun t36 w =>
  gd t36 false (fun K w => K t34 w) (fun t38 w =>
  gd t36 false (boF Tryz.prog true .neq t38 .nilIface) (fun t39 w =>
  pk t36 (.bool true) t39 (fun t40 w =>
  ifb t40
  (K (.bool false) w)
  (fd 0 t3 (fun t41 w =>
  ld1 t41 (fun t42 w =>
  lnS t42 (fun t43 w =>
  s35_p24 K t0 t3 t26 t31 t32 t42 t43 (.int .i64 0) w) w) w) w)) w) w) w) w) w) w) w) w) w) w) w) w) w) w) w
def s35_p25_den (K : Value → World → Prop) : (Nat → Value) → World → Prop := denL Tryz.prog [(cd (Tryz.f35.body.getD .skip) [0]), (cd (Tryz.f35.body.getD .skip) [1, 0]), (cd (Tryz.f35.body.getD .skip) [1, 1, 0]), (cd (Tryz.f35.body.getD .skip) [1, 1, 1, 0]), (cd (Tryz.f35.body.getD .skip) [1, 1, 1, 1, 0, 0]), (cd (Tryz.f35.body.getD .skip) [1, 1, 1, 1, 0, 1]), (cd (Tryz.f35.body.getD .skip) [1, 1, 1, 1, 1, 0, 0])] (s35_p24_den K) (fun i => (fun _ _ => False)) (s35_R K)
theorem s35_p25_ok (K : Value → World → Prop) (s : Nat → Value) (w : World) (h : s35_p25 K (s 0) w) : Tr (s35_p25_den K s w) :=
  tr_simple (P := Tryz.prog) (codes := [(cd (Tryz.f35.body.getD .skip) [0]), (cd (Tryz.f35.body.getD .skip) [1, 0]), (cd (Tryz.f35.body.getD .skip) [1, 1, 0]), (cd (Tryz.f35.body.getD .skip) [1, 1, 1, 0]), (cd (Tryz.f35.body.getD .skip) [1, 1, 1, 1, 0, 0]), (cd (Tryz.f35.body.getD .skip) [1, 1, 1, 1, 0, 1]), (cd (Tryz.f35.body.getD .skip) [1, 1, 1, 1, 1, 0, 0])]) (N := (fun s w => s35_p24 K (s 0) (s 3) (s 4) (s 6) (s 7) (s 42) (s 43) (s 44) w)) (N' := (s35_p24_den K)) (X := (fun i => (fun _ _ => False))) (X' := (fun i => (fun _ _ => False))) (R := s35_R K) (s := s) (w := w) (p := s35_p25 K (s 0) w) (q := s35_p25_den K s w) (fun s w h => s35_p24_ok K s w @h) (fun i => tr_id) (by kernel_rfl) (by kernel_rfl) @h
/-- the call, from the text -/
theorem c35 (t0 : Value) {K : Value → World → Prop} {w : World} (h : s35_p25 K t0 w) : cl Tryz.prog 35 #[t0] K w :=
  calls_of_tr (c := (Tryz.f35.body.getD .skip)) (fn := Tryz.f35) (q := s35_p25_den K (st0 #[t0]) w) Tryz.func35 (by kernel_rfl) (by kernel_rfl) (Nat.le_of_ble_eq_true (by kernel_rfl)) (by kernel_rfl) (by kernel_rfl) (s35_p25_ok K (st0 #[t0]) w @h)

/-! ### function 113 : e2e.enginelaw.occupancy -/
def s113_R (K : Value → World → Prop) (s : Nat → Value) (w : World) : Prop := retv Tryz.prog s Tryz.f113.results.toList (fun vs => K (pack vs) w) w
def s113_p1 (K : Value → World → Prop) (t8 : Value) (w : World) : Prop :=
  K t8 w
def s113_p1_den (K : Value → World → Prop) : (Nat → Value) → World → Prop := denL Tryz.prog [(cd (Tryz.f113.body.getD .skip) [1, 1, 1, 1, 0]), (cd (Tryz.f113.body.getD .skip) [1, 1, 1, 1, 1])] (fun _ _ => False) (fun i => (fun _ _ => False)) (s113_R K)
theorem s113_p1_ok (K : Value → World → Prop) (s : Nat → Value) (w : World) (h : s113_p1 K (s 8) w) : Tr (s113_p1_den K s w) :=
  tr_simple (P := Tryz.prog) (codes := [(cd (Tryz.f113.body.getD .skip) [1, 1, 1, 1, 0]), (cd (Tryz.f113.body.getD .skip) [1, 1, 1, 1, 1])]) (N := (fun _ _ => False)) (N' := (fun _ _ => False)) (X := (fun i => (fun _ _ => False))) (X' := (fun i => (fun _ _ => False))) (R := s113_R K) (s := s) (w := w) (p := s113_p1 K (s 8) w) (q := s113_p1_den K s w) tr_id (fun i => tr_id) (by kernel_rfl) (by kernel_rfl) @h
def s113_p2 (K : Value → World → Prop) (B1 : List Value → World → Prop) (t1 t2 t7 t8 t19 t20 t21 : Value) (w : World) : Prop :=
  boI .add t21 (.int .i64 1) (fun t58 w =>
  B1 [t1, t2, t7, t8, t19, t20, t58] w) w
def s113_p2_den (K : Value → World → Prop) (M1 : (Nat → Value) → World → Prop) : (Nat → Value) → World → Prop := denL Tryz.prog [(cd (Tryz.f113.body.getD .skip) [1, 1, 1, 0, 1, 0, 0, 1, 1, 1])] M1 (fun i => (bif Nat.beq i 0 then (s113_p1_den K) else (fun _ _ => False))) (s113_R K)
theorem s113_p2_ok (K : Value → World → Prop) (B1 : List Value → World → Prop) (s : Nat → Value) (w : World) (h : s113_p2 K B1 (s 1) (s 2) (s 7) (s 8) (s 19) (s 20) (s 21) w) : Tr (s113_p2_den K (fun s w => B1 [s 1, s 2, s 7, s 8, s 19, s 20, s 21] w) s w) :=
  tr_simple (P := Tryz.prog) (codes := [(cd (Tryz.f113.body.getD .skip) [1, 1, 1, 0, 1, 0, 0, 1, 1, 1])]) (N := (fun s w => B1 [s 1, s 2, s 7, s 8, s 19, s 20, s 21] w)) (N' := (fun s w => B1 [s 1, s 2, s 7, s 8, s 19, s 20, s 21] w)) (X := (fun i => (bif Nat.beq i 0 then (fun s w => s113_p1 K (s 8) w) else (fun _ _ => False)))) (X' := (fun i => (bif Nat.beq i 0 then (s113_p1_den K) else (fun _ _ => False)))) (R := s113_R K) (s := s) (w := w) (p := s113_p2 K B1 (s 1) (s 2) (s 7) (s 8) (s 19) (s 20) (s 21) w) (q := s113_p2_den K (fun s w => B1 [s 1, s 2, s 7, s 8, s 19, s 20, s 21] w) s w) tr_id (fun i => (tr_bif (fun s w h => s113_p1_ok K s w @h) tr_id)) (by kernel_rfl) (by kernel_rfl) @h
def s113_p3 (K : Value → World → Prop) (B1 : List Value → World → Prop) (B2 : List Value → World → Prop) (t1 t2 t7 t8 t10 t19 t20 t21 t29 t30 t31 : Value) (w : World) : Prop :=
  boI .add t31 (.int .i64 1) (fun t57 w =>
  B2 [t1, t2, t7, t8, t10, t19, t20, t21, t29, t30, t57] w) w
def s113_p3_den (K : Value → World → Prop) (M1 : (Nat → Value) → World → Prop) (M2 : (Nat → Value) → World → Prop) : (Nat → Value) → World → Prop := denL Tryz.prog [(cd (Tryz.f113.body.getD .skip) [1, 1, 1, 0, 1, 0, 0, 1, 1, 0, 0, 1, 1, 0, 1, 0, 0, 1, 1, 1])] M2 (fun i => (bif Nat.beq i 2 then (s113_p2_den K M1) else (bif Nat.beq i 1 then (s113_p2_den K M1) else (bif Nat.beq i 0 then (s113_p1_den K) else (fun _ _ => False))))) (s113_R K)
theorem s113_p3_ok (K : Value → World → Prop) (B1 : List Value → World → Prop) (B2 : List Value → World → Prop) (s : Nat → Value) (w : World) (h : s113_p3 K B1 B2 (s 1) (s 2) (s 7) (s 8) (s 10) (s 19) (s 20) (s 21) (s 29) (s 30) (s 31) w) : Tr (s113_p3_den K (fun s w => B1 [s 1, s 2, s 7, s 8, s 19, s 20, s 21] w) (fun s w => B2 [s 1, s 2, s 7, s 8, s 10, s 19, s 20, s 21, s 29, s 30, s 31] w) s w) :=
  tr_simple (P := Tryz.prog) (codes := [(cd (Tryz.f113.body.getD .skip) [1, 1, 1, 0, 1, 0, 0, 1, 1, 0, 0, 1, 1, 0, 1, 0, 0, 1, 1, 1])]) (N := (fun s w => B2 [s 1, s 2, s 7, s 8, s 10, s 19, s 20, s 21, s 29, s 30, s 31] w)) (N' := (fun s w => B2 [s 1, s 2, s 7, s 8, s 10, s 19, s 20, s 21, s 29, s 30, s 31] w)) (X := (fun i => (bif Nat.beq i 2 then (fun s w => s113_p2 K B1 (s 1) (s 2) (s 7) (s 8) (s 19) (s 20) (s 21) w) else (bif Nat.beq i 1 then (fun s w => s113_p2 K B1 (s 1) (s 2) (s 7) (s 8) (s 19) (s 20) (s 21) w) else (bif Nat.beq i 0 then (fun s w => s113_p1 K (s 8) w) else (fun _ _ => False)))))) (X' := (fun i => (bif Nat.beq i 2 then (s113_p2_den K (fun s w => B1 [s 1, s 2, s 7, s 8, s 19, s 20, s 21] w)) else (bif Nat.beq i 1 then (s113_p2_den K (fun s w => B1 [s 1, s 2, s 7, s 8, s 19, s 20, s 21] w)) else (bif Nat.beq i 0 then (s113_p1_den K) else (fun _ _ => False)))))) (R := s113_R K) (s := s) (w := w) (p := s113_p3 K B1 B2 (s 1) (s 2) (s 7) (s 8) (s 10) (s 19) (s 20) (s 21) (s 29) (s 30) (s 31) w) (q := s113_p3_den K (fun s w => B1 [s 1, s 2, s 7, s 8, s 19, s 20, s 21] w) (fun s w => B2 [s 1, s 2, s 7, s 8, s 10, s 19, s 20, s 21, s 29, s 30, s 31] w) s w) tr_id (fun i => (tr_bif (fun s w h => s113_p2_ok K B1 s w @h) (tr_bif (fun s w h => s113_p2_ok K B1 s w @h) (tr_bif (fun s w h => s113_p1_ok K s w @h) tr_id)))) (by kernel_rfl) (by kernel_rfl) @h
def s113_p4 (K : Value → World → Prop) (B1 : List Value → World → Prop) (B2 : List Value → World → Prop) (t1 t2 t7 t8 t10 t19 t20 t21 t29 t30 t31 : Value) (w : World) : Prop :=
  boI .lss t31 t30 (fun t32 w =>
  ifb t32
  (ixs 2 t29 t31 (fun t33 w =>
  ldn 2 t33 (fun t34 w =>
  nw 88 #[(.int .i64 0), (.int .i64 0)] (fun t12 w =>
  stn 2 t12 t34 (fun w =>
  fd 0 t12 (fun t35 w =>
  ld1 t35 (fun t36 w =>
  boI .eql t36 t1 (fun t38 w =>
  gd t38 true (fun K w => K t2 w) (fun t40 w =>
  gd t38 true (fun K w => K t7 w) (fun t41 w =>
  gd t38 true (boI .sub t40 t41) (fun t42 w =>
  gd t38 true (fd 1 t12) (fun t43 w =>
  gd t38 true (ld1 t43) (fun t44 w =>
  gd t38 true (boI .lss t42 t44) (fun t45 w =>
  pk t38 t45 (.bool false) (fun t46 w =>
  gd t46 true (fd 1 t12) (fun t48 w =>
  gd t46 true (ld1 t48) (fun t49 w =>
  gd t46 true (fun K w => K t2 w) (fun t50 w =>
  gd t46 true (boI .leq t49 t50) (fun t51 w =>
  pk t46 t51 (.bool false) (fun t52 w =>
  ifb t52
  (fd 3 t10 (fun t54 w =>
  ld1 t54 (fun t55 w =>
  boI .add t8 t55 (fun t56 w =>
  s113_p3 K B1 B2 t1 t2 t7 t56 t10 t19 t20 t21 t29 t30 t31 w) w) w) w)
  (s113_p3 K B1 B2 t1 t2 t7 t8 t10 t19 t20 t21 t29 t30 t31 w)) w) w) w) w) w) w) w) w) w) w) w) w) w) w) w) w) w) w) w)
  (s113_p2 K B1 t1 t2 t7 t8 t19 t20 t21 w)) w
def s113_p4_den (K : Value → World → Prop) (M1 : (Nat → Value) → World → Prop) (M2 : (Nat → Value) → World → Prop) : (Nat → Value) → World → Prop := denL Tryz.prog [(cd (Tryz.f113.body.getD .skip) [1, 1, 1, 0, 1, 0, 0, 1, 1, 0, 0, 1, 1, 0, 1, 0, 0, 0]), (cd (Tryz.f113.body.getD .skip) [1, 1, 1, 0, 1, 0, 0, 1, 1, 0, 0, 1, 1, 0, 1, 0, 0, 1, 0]), (cd (Tryz.f113.body.getD .skip) [1, 1, 1, 0, 1, 0, 0, 1, 1, 0, 0, 1, 1, 0, 1, 0, 0, 1, 1, 0])] (s113_p3_den K M1 M2) (fun i => (bif Nat.beq i 2 then (s113_p2_den K M1) else (bif Nat.beq i 1 then (s113_p2_den K M1) else (bif Nat.beq i 0 then (s113_p1_den K) else (fun _ _ => False))))) (s113_R K)
theorem s113_p4_ok (K : Value → World → Prop) (B1 : List Value → World → Prop) (B2 : List Value → World → Prop) (s : Nat → Value) (w : World) (h : s113_p4 K B1 B2 (s 1) (s 2) (s 7) (s 8) (s 10) (s 19) (s 20) (s 21) (s 29) (s 30) (s 31) w) : Tr (s113_p4_den K (fun s w => B1 [s 1, s 2, s 7, s 8, s 19, s 20, s 21] w) (fun s w => B2 [s 1, s 2, s 7, s 8, s 10, s 19, s 20, s 21, s 29, s 30, s 31] w) s w) :=
  tr_simple (P := Tryz.prog) (codes := [(cd (Tryz.f113.body.getD .skip) [1, 1, 1, 0, 1, 0, 0, 1, 1, 0, 0, 1, 1, 0, 1, 0, 0, 0]), (cd (Tryz.f113.body.getD .skip) [1, 1, 1, 0, 1, 0, 0, 1, 1, 0, 0, 1, 1, 0, 1, 0, 0, 1, 0]), (cd (Tryz.f113.body.getD .skip) [1, 1, 1, 0, 1, 0, 0, 1, 1, 0, 0, 1, 1, 0, 1, 0, 0, 1, 1, 0])]) (N := (fun s w => s113_p3 K B1 B2 (s 1) (s 2) (s 7) (s 8) (s 10) (s 19) (s 20) (s 21) (s 29) (s 30) (s 31) w)) (N' := (s113_p3_den K (fun s w => B1 [s 1, s 2, s 7, s 8, s 19, s 20, s 21] w) (fun s w => B2 [s 1, s 2, s 7, s 8, s 10, s 19, s 20, s 21, s 29, s 30, s 31] w))) (X := (fun i => (bif Nat.beq i 2 then (fun s w => s113_p2 K B1 (s 1) (s 2) (s 7) (s 8) (s 19) (s 20) (s 21) w) else (bif Nat.beq i 1 then (fun s w => s113_p2 K B1 (s 1) (s 2) (s 7) (s 8) (s 19) (s 20) (s 21) w) else (bif Nat.beq i 0 then (fun s w => s113_p1 K (s 8) w) else (fun _ _ => False)))))) (X' := (fun i => (bif Nat.beq i 2 then (s113_p2_den K (fun s w => B1 [s 1, s 2, s 7, s 8, s 19, s 20, s 21] w)) else (bif Nat.beq i 1 then (s113_p2_den K (fun s w => B1 [s 1, s 2, s 7, s 8, s 19, s 20, s 21] w)) else (bif Nat.beq i 0 then (s113_p1_den K) else (fun _ _ => False)))))) (R := s113_R K) (s := s) (w := w) (p := s113_p4 K B1 B2 (s 1) (s 2) (s 7) (s 8) (s 10) (s 19) (s 20) (s 21) (s 29) (s 30) (s 31) w) (q := s113_p4_den K (fun s w => B1 [s 1, s 2, s 7, s 8, s 19, s 20, s 21] w) (fun s w => B2 [s 1, s 2, s 7, s 8, s 10, s 19, s 20, s 21, s 29, s 30, s 31] w) s w) (fun s w h => s113_p3_ok K B1 B2 s w @h) (fun i => (tr_bif (fun s w h => s113_p2_ok K B1 s w @h) (tr_bif (fun s w h => s113_p2_ok K B1 s w @h) (tr_bif (fun s w h => s113_p1_ok K s w @h) tr_id)))) (by kernel_rfl) (by kernel_rfl) @h
def s113_p5_F (K : Value → World → Prop) (B1 : List Value → World → Prop) (B2 : List Value → World → Prop) (l : List Value) (w : World) : Prop :=
  match l with
  | [t1, t2, t7, t8, t10, t19, t20, t21, t29, t30, t31] => s113_p4 K B1 B2 t1 t2 t7 t8 t10 t19 t20 t21 t29 t30 t31 w
  | _ => False
theorem s113_p5_Fe {K : Value → World → Prop} {B1 : List Value → World → Prop} {B2 : List Value → World → Prop} {t1 t2 t7 t8 t10 t19 t20 t21 t29 t30 t31 : Value} {w : World} : s113_p5_F K B1 B2 [t1, t2, t7, t8, t10, t19, t20, t21, t29, t30, t31] w = s113_p4 K B1 B2 t1 t2 t7 t8 t10 t19 t20 t21 t29 t30 t31 w := by kernel_rfl
def s113_p5 (K : Value → World → Prop) (B1 : List Value → World → Prop) (t1 t2 t7 t8 t10 t19 t20 t21 t29 t30 t31 : Value) (w : World) : Prop :=
  LoopL (s113_p5_F K B1) [t1, t2, t7, t8, t10, t19, t20, t21, t29, t30, t31] w
def s113_p5_den (K : Value → World → Prop) (M1 : (Nat → Value) → World → Prop) : (Nat → Value) → World → Prop := fun s w => LoopP (fun M2 s w => s113_p4_den K M1 M2 s w) s w
theorem s113_p5_ok (K : Value → World → Prop) (B1 : List Value → World → Prop) (s : Nat → Value) (w : World) (h : s113_p5 K B1 (s 1) (s 2) (s 7) (s 8) (s 10) (s 19) (s 20) (s 21) (s 29) (s 30) (s 31) w) : Tr (s113_p5_den K (fun s w => B1 [s 1, s 2, s 7, s 8, s 19, s 20, s 21] w) s w) :=
  tr_loop (G := fun N' s w => s113_p4_den K (fun s w => B1 [s 1, s 2, s 7, s 8, s 19, s 20, s 21] w) N' s w) (F := s113_p5_F K B1) (sel := fun s => [s 1, s 2, s 7, s 8, s 10, s 19, s 20, s 21, s 29, s 30, s 31]) (s := s) (w := w) (p := s113_p5 K B1 (s 1) (s 2) (s 7) (s 8) (s 10) (s 19) (s 20) (s 21) (s 29) (s 30) (s 31) w) (q := s113_p5_den K (fun s w => B1 [s 1, s 2, s 7, s 8, s 19, s 20, s 21] w) s w) (fun B s w h => s113_p4_ok K B1 B s w @h) (by kernel_rfl) (by kernel_rfl) @h
def s113_p6 (K : Value → World → Prop) (B1 : List Value → World → Prop) (t1 t2 t7 t8 t10 t19 t20 t21 : Value) (w : World) : Prop :=
  fd 6 t10 (fun t28 w =>
  ld1 t28 (fun t29 w =>
  lnS t29 (fun t30 w =>
  s113_p5 K B1 t1 t2 t7 t8 t10 t19 t20 t21 t29 t30 (.int .i64 0) w) w) w) w
def s113_p6_den (K : Value → World → Prop) (M1 : (Nat → Value) → World → Prop) : (Nat → Value) → World → Prop := denL Tryz.prog [(cd (Tryz.f113.body.getD .skip) [1, 1, 1, 0, 1, 0, 0, 1, 1, 0, 0, 1, 1, 0, 0])] (s113_p5_den K M1) (fun i => (bif Nat.beq i 1 then (s113_p2_den K M1) else (bif Nat.beq i 0 then (s113_p1_den K) else (fun _ _ => False)))) (s113_R K)
theorem s113_p6_ok (K : Value → World → Prop) (B1 : List Value → World → Prop) (s : Nat → Value) (w : World) (h : s113_p6 K B1 (s 1) (s 2) (s 7) (s 8) (s 10) (s 19) (s 20) (s 21) w) : Tr (s113_p6_den K (fun s w => B1 [s 1, s 2, s 7, s 8, s 19, s 20, s 21] w) s w) :=
  tr_simple (P := Tryz.prog) (codes := [(cd (Tryz.f113.body.getD .skip) [1, 1, 1, 0, 1, 0, 0, 1, 1, 0, 0, 1, 1, 0, 0])]) (N := (fun s w => s113_p5 K B1 (s 1) (s 2) (s 7) (s 8) (s 10) (s 19) (s 20) (s 21) (s 29) (s 30) (s 31) w)) (N' := (s113_p5_den K (fun s w => B1 [s 1, s 2, s 7, s 8, s 19, s 20, s 21] w))) (X := (fun i => (bif Nat.beq i 1 then (fun s w => s113_p2 K B1 (s 1) (s 2) (s 7) (s 8) (s 19) (s 20) (s 21) w) else (bif Nat.beq i 0 then (fun s w => s113_p1 K (s 8) w) else (fun _ _ => False))))) (X' := (fun i => (bif Nat.beq i 1 then (s113_p2_den K (fun s w => B1 [s 1, s 2, s 7, s 8, s 19, s 20, s 21] w)) else (bif Nat.beq i 0 then (s113_p1_den K) else (fun _ _ => False))))) (R := s113_R K) (s := s) (w := w) (p := s113_p6 K B1 (s 1) (s 2) (s 7) (s 8) (s 10) (s 19) (s 20) (s 21) w) (q := s113_p6_den K (fun s w => B1 [s 1, s 2, s 7, s 8, s 19, s 20, s 21] w) s w) (fun s w h => s113_p5_ok K B1 s w @h) (fun i => (tr_bif (fun s w h => s113_p2_ok K B1 s w @h) (tr_bif (fun s w h => s113_p1_ok K s w @h) tr_id))) (by kernel_rfl) (by kernel_rfl) @h
def s113_p7 (K : Value → World → Prop) (B1 : List Value → World → Prop) (t1 t2 t7 t8 t10 t19 t20 t21 t27 : Value) (w : World) : Prop :=
  ifb t27
  (s113_p6 K B1 t1 t2 t7 t8 t10 t19 t20 t21 w)
  (s113_p2 K B1 t1 t2 t7 t8 t19 t20 t21 w)
def s113_p7_den (K : Value → World → Prop) (M1 : (Nat → Value) → World → Prop) : (Nat → Value) → World → Prop := fun s w => ifb (ev s (.tmp 27)) ((s113_p6_den K M1) s w) ((s113_p2_den K M1) s w)
theorem s113_p7_ok (K : Value → World → Prop) (B1 : List Value → World → Prop) (s : Nat → Value) (w : World) (h : s113_p7 K B1 (s 1) (s 2) (s 7) (s 8) (s 10) (s 19) (s 20) (s 21) (s 27) w) : Tr (s113_p7_den K (fun s w => B1 [s 1, s 2, s 7, s 8, s 19, s 20, s 21] w) s w) :=
  tr_cond (v := ev s (.tmp 27)) (a := (fun s w => s113_p6 K B1 (s 1) (s 2) (s 7) (s 8) (s 10) (s 19) (s 20) (s 21) w) s w) (a' := (s113_p6_den K (fun s w => B1 [s 1, s 2, s 7, s 8, s 19, s 20, s 21] w)) s w) (b := (fun s w => s113_p2 K B1 (s 1) (s 2) (s 7) (s 8) (s 19) (s 20) (s 21) w) s w) (b' := (s113_p2_den K (fun s w => B1 [s 1, s 2, s 7, s 8, s 19, s 20, s 21] w)) s w) (p := s113_p7 K B1 (s 1) (s 2) (s 7) (s 8) (s 10) (s 19) (s 20) (s 21) (s 27) w) (q := s113_p7_den K (fun s w => B1 [s 1, s 2, s 7, s 8, s 19, s 20, s 21] w) s w) ((fun s w h => s113_p6_ok K B1 s w @h) s w) ((fun s w h => s113_p2_ok K B1 s w @h) s w) (by kernel_rfl) (by kernel_rfl) @h
def s113_p8 (K : Value → World → Prop) (B1 : List Value → World → Prop) (t1 t2 t7 t8 t19 t20 t21 : Value) (w : World) : Prop :=
  ixs 7 t19 t21 (fun t23 w =>
  ldn 7 t23 (fun t24 w =>
  nw 85 #[(.int .i64 0), (.int .i64 0), (.int .i64 0), (.int .i64 0), (.int .i64 0), (.int .i64 0), (.slice none 0 0)] (fun t10 w =>
  stn 7 t10 t24 (fun w =>
  fd 1 t10 (fun t25 w =>
  ld1 t25 (fun t26 w =>
  cl Tryz.prog 115 #[t26] (fun t27 w =>
  s113_p7 K B1 t1 t2 t7 t8 t10 t19 t20 t21 t27 w) w) w) w) w) w) w) w
def s113_p8_den (K : Value → World → Prop) (M1 : (Nat → Value) → World → Prop) : (Nat → Value) → World → Prop := denL Tryz.prog [(cd (Tryz.f113.body.getD .skip) [1, 1, 1, 0, 1, 0, 0, 1, 1, 0, 0, 0]), (cd (Tryz.f113.body.getD .skip) [1, 1, 1, 0, 1, 0, 0, 1, 1, 0, 0, 1, 0])] (s113_p7_den K M1) (fun i => (bif Nat.beq i 1 then (s113_p2_den K M1) else (bif Nat.beq i 0 then (s113_p1_den K) else (fun _ _ => False)))) (s113_R K)
theorem s113_p8_ok (K : Value → World → Prop) (B1 : List Value → World → Prop) (s : Nat → Value) (w : World) (h : s113_p8 K B1 (s 1) (s 2) (s 7) (s 8) (s 19) (s 20) (s 21) w) : Tr (s113_p8_den K (fun s w => B1 [s 1, s 2, s 7, s 8, s 19, s 20, s 21] w) s w) :=
  tr_simple (P := Tryz.prog) (codes := [(cd (Tryz.f113.body.getD .skip) [1, 1, 1, 0, 1, 0, 0, 1, 1, 0, 0, 0]), (cd (Tryz.f113.body.getD .skip) [1, 1, 1, 0, 1, 0, 0, 1, 1, 0, 0, 1, 0])]) (N := (fun s w => s113_p7 K B1 (s 1) (s 2) (s 7) (s 8) (s 10) (s 19) (s 20) (s 21) (s 27) w)) (N' := (s113_p7_den K (fun s w => B1 [s 1, s 2, s 7, s 8, s 19, s 20, s 21] w))) (X := (fun i => (bif Nat.beq i 1 then (fun s w => s113_p2 K B1 (s 1) (s 2) (s 7) (s 8) (s 19) (s 20) (s 21) w) else (bif Nat.beq i 0 then (fun s w => s113_p1 K (s 8) w) else (fun _ _ => False))))) (X' := (fun i => (bif Nat.beq i 1 then (s113_p2_den K (fun s w => B1 [s 1, s 2, s 7, s 8, s 19, s 20, s 21] w)) else (bif Nat.beq i 0 then (s113_p1_den K) else (fun _ _ => False))))) (R := s113_R K) (s := s) (w := w) (p := s113_p8 K B1 (s 1) (s 2) (s 7) (s 8) (s 19) (s 20) (s 21) w) (q := s113_p8_den K (fun s w => B1 [s 1, s 2, s 7, s 8, s 19, s 20, s 21] w) s w) (fun s w h => s113_p7_ok K B1 s w @h) (fun i => (tr_bif (fun s w h => s113_p2_ok K B1 s w @h) (tr_bif (fun s w h => s113_p1_ok K s w @h) tr_id))) (by kernel_rfl) (by kernel_rfl) @h
def s113_p9 (K : Value → World → Prop) (B1 : List Value → World → Prop) (t1 t2 t7 t8 t19 t20 t21 : Value) (w : World) : Prop :=
  boI .lss t21 t20 (fun t22 w =>
  ifb t22
  (s113_p8 K B1 t1 t2 t7 t8 t19 t20 t21 w)
  (s113_p1 K t8 w)) w
def s113_p9_den (K : Value → World → Prop) (M1 : (Nat → Value) → World → Prop) : (Nat → Value) → World → Prop := denL Tryz.prog [(cd (Tryz.f113.body.getD .skip) [1, 1, 1, 0, 1, 0, 0, 0]), (cd (Tryz.f113.body.getD .skip) [1, 1, 1, 0, 1, 0, 0, 1, 0])] (s113_p8_den K M1) (fun i => (bif Nat.beq i 0 then (s113_p1_den K) else (fun _ _ => False))) (s113_R K)
theorem s113_p9_ok (K : Value → World → Prop) (B1 : List Value → World → Prop) (s : Nat → Value) (w : World) (h : s113_p9 K B1 (s 1) (s 2) (s 7) (s 8) (s 19) (s 20) (s 21) w) : Tr (s113_p9_den K (fun s w => B1 [s 1, s 2, s 7, s 8, s 19, s 20, s 21] w) s w) :=
  tr_simple (P := Tryz.prog) (codes := [(cd (Tryz.f113.body.getD .skip) [1, 1, 1, 0, 1, 0, 0, 0]), (cd (Tryz.f113.body.getD .skip) [1, 1, 1, 0, 1, 0, 0, 1, 0])]) (N := (fun s w => s113_p8 K B1 (s 1) (s 2) (s 7) (s 8) (s 19) (s 20) (s 21) w)) (N' := (s113_p8_den K (fun s w => B1 [s 1, s 2, s 7, s 8, s 19, s 20, s 21] w))) (X := (fun i => (bif Nat.beq i 0 then (fun s w => s113_p1 K (s 8) w) else (fun _ _ => False)))) (X' := (fun i => (bif Nat.beq i 0 then (s113_p1_den K) else (fun _ _ => False)))) (R := s113_R K) (s := s) (w := w) (p := s113_p9 K B1 (s 1) (s 2) (s 7) (s 8) (s 19) (s 20) (s 21) w) (q := s113_p9_den K (fun s w => B1 [s 1, s 2, s 7, s 8, s 19, s 20, s 21] w) s w) (fun s w h => s113_p8_ok K B1 s w @h) (fun i => (tr_bif (fun s w h => s113_p1_ok K s w @h) tr_id)) (by kernel_rfl) (by kernel_rfl) @h
def s113_p10_F (K : Value → World → Prop) (B1 : List Value → World → Prop) (l : List Value) (w : World) : Prop :=
  match l with
  | [t1, t2, t7, t8, t19, t20, t21] => s113_p9 K B1 t1 t2 t7 t8 t19 t20 t21 w
  | _ => False
theorem s113_p10_Fe {K : Value → World → Prop} {B1 : List Value → World → Prop} {t1 t2 t7 t8 t19 t20 t21 : Value} {w : World} : s113_p10_F K B1 [t1, t2, t7, t8, t19, t20, t21] w = s113_p9 K B1 t1 t2 t7 t8 t19 t20 t21 w := by kernel_rfl
def s113_p10 (K : Value → World → Prop) (t1 t2 t7 t8 t19 t20 t21 : Value) (w : World) : Prop :=
  LoopL (s113_p10_F K) [t1, t2, t7, t8, t19, t20, t21] w
def s113_p10_den (K : Value → World → Prop) : (Nat → Value) → World → Prop := fun s w => LoopP (fun M1 s w => s113_p9_den K M1 s w) s w
theorem s113_p10_ok (K : Value → World → Prop) (s : Nat → Value) (w : World) (h : s113_p10 K (s 1) (s 2) (s 7) (s 8) (s 19) (s 20) (s 21) w) : Tr (s113_p10_den K s w) :=
  tr_loop (G := fun N' s w => s113_p9_den K N' s w) (F := s113_p10_F K) (sel := fun s => [s 1, s 2, s 7, s 8, s 19, s 20, s 21]) (s := s) (w := w) (p := s113_p10 K (s 1) (s 2) (s 7) (s 8) (s 19) (s 20) (s 21) w) (q := s113_p10_den K s w) (fun B s w h => s113_p9_ok K B s w @h) (by kernel_rfl) (by kernel_rfl) @h
def s113_p11 (K : Value → World → Prop) (t0 t1 t2 : Value) (w : World) : Prop :=
  cl Tryz.prog 21 #[] (fun t13 w =>
  fi Tryz.prog 34 t13 0 (fun t14 w =>
  ixs 5 t14 t1 (fun t16 w =>
  fd 1 t16 (fun t17 w =>
  ld1 t17 (fun t18 w =>
  lnS t0 (fun t20 w =>
  s113_p10 K t1 t2 t18 (.int .i64 0) t0 t20 (.int .i64 0) w) w) w) w) w) w) w
def s113_p11_den (K : Value → World → Prop) : (Nat → Value) → World → Prop := denL Tryz.prog [(cd (Tryz.f113.body.getD .skip) [0]), (cd (Tryz.f113.body.getD .skip) [1, 0]), (cd (Tryz.f113.body.getD .skip) [1, 1, 0]), (cd (Tryz.f113.body.getD .skip) [1, 1, 1, 0, 0])] (s113_p10_den K) (fun i => (fun _ _ => False)) (s113_R K)
theorem s113_p11_ok (K : Value → World → Prop) (s : Nat → Value) (w : World) (h : s113_p11 K (s 0) (s 1) (s 2) w) : Tr (s113_p11_den K s w) :=
  tr_simple (P := Tryz.prog) (codes := [(cd (Tryz.f113.body.getD .skip) [0]), (cd (Tryz.f113.body.getD .skip) [1, 0]), (cd (Tryz.f113.body.getD .skip) [1, 1, 0]), (cd (Tryz.f113.body.getD .skip) [1, 1, 1, 0, 0])]) (N := (fun s w => s113_p10 K (s 1) (s 2) (s 7) (s 8) (s 19) (s 20) (s 21) w)) (N' := (s113_p10_den K)) (X := (fun i => (fun _ _ => False))) (X' := (fun i => (fun _ _ => False))) (R := s113_R K) (s := s) (w := w) (p := s113_p11 K (s 0) (s 1) (s 2) w) (q := s113_p11_den K s w) (fun s w h => s113_p10_ok K s w @h) (fun i => tr_id) (by kernel_rfl) (by kernel_rfl) @h
/-- the call, from the text -/
theorem c113 (t0 t1 t2 : Value) {K : Value → World → Prop} {w : World} (h : s113_p11 K t0 t1 t2 w) : cl Tryz.prog 113 #[t0, t1, t2] K w :=
  calls_of_tr (c := (Tryz.f113.body.getD .skip)) (fn := Tryz.f113) (q := s113_p11_den K (st0 #[t0, t1, t2]) w) Tryz.func113 (by kernel_rfl) (by kernel_rfl) (Nat.le_of_ble_eq_true (by kernel_rfl)) (by kernel_rfl) (by kernel_rfl) (s113_p11_ok K (st0 #[t0, t1, t2]) w @h)

/-! ### function 114 : e2e.enginelaw.entered -/
def s114_R (K : Value → World → Prop) (s : Nat → Value) (w : World) : Prop := retv Tryz.prog s Tryz.f114.results.toList (fun vs => K (pack vs) w) w
def s114_p1 (K : Value → World → Prop) (t9 : Value) (w : World) : Prop :=
  K t9 w
def s114_p1_den (K : Value → World → Prop) : (Nat → Value) → World → Prop := denL Tryz.prog [(cd (Tryz.f114.body.getD .skip) [1, 1, 1, 0]), (cd (Tryz.f114.body.getD .skip) [1, 1, 1, 1])] (fun _ _ => False) (fun i => (fun _ _ => False)) (s114_R K)
theorem s114_p1_ok (K : Value → World → Prop) (s : Nat → Value) (w : World) (h : s114_p1 K (s 9) w) : Tr (s114_p1_den K s w) :=
  tr_simple (P := Tryz.prog) (codes := [(cd (Tryz.f114.body.getD .skip) [1, 1, 1, 0]), (cd (Tryz.f114.body.getD .skip) [1, 1, 1, 1])]) (N := (fun _ _ => False)) (N' := (fun _ _ => False)) (X := (fun i => (fun _ _ => False))) (X' := (fun i => (fun _ _ => False))) (R := s114_R K) (s := s) (w := w) (p := s114_p1 K (s 9) w) (q := s114_p1_den K s w) tr_id (fun i => tr_id) (by kernel_rfl) (by kernel_rfl) @h
def s114_p2 (K : Value → World → Prop) (B1 : List Value → World → Prop) (t1 t2 t3 t9 t14 t15 t16 : Value) (w : World) : Prop :=
  boI .add t16 (.int .i64 1) (fun t46 w =>
  B1 [t1, t2, t3, t9, t14, t15, t46] w) w
def s114_p2_den (K : Value → World → Prop) (M1 : (Nat → Value) → World → Prop) : (Nat → Value) → World → Prop := denL Tryz.prog [(cd (Tryz.f114.body.getD .skip) [1, 1, 0, 1, 0, 0, 1, 1, 1])] M1 (fun i => (bif Nat.beq i 0 then (s114_p1_den K) else (fun _ _ => False))) (s114_R K)
theorem s114_p2_ok (K : Value → World → Prop) (B1 : List Value → World → Prop) (s : Nat → Value) (w : World) (h : s114_p2 K B1 (s 1) (s 2) (s 3) (s 9) (s 14) (s 15) (s 16) w) : Tr (s114_p2_den K (fun s w => B1 [s 1, s 2, s 3, s 9, s 14, s 15, s 16] w) s w) :=
  tr_simple (P := Tryz.prog) (codes := [(cd (Tryz.f114.body.getD .skip) [1, 1, 0, 1, 0, 0, 1, 1, 1])]) (N := (fun s w => B1 [s 1, s 2, s 3, s 9, s 14, s 15, s 16] w)) (N' := (fun s w => B1 [s 1, s 2, s 3, s 9, s 14, s 15, s 16] w)) (X := (fun i => (bif Nat.beq i 0 then (fun s w => s114_p1 K (s 9) w) else (fun _ _ => False)))) (X' := (fun i => (bif Nat.beq i 0 then (s114_p1_den K) else (fun _ _ => False)))) (R := s114_R K) (s := s) (w := w) (p := s114_p2 K B1 (s 1) (s 2) (s 3) (s 9) (s 14) (s 15) (s 16) w) (q := s114_p2_den K (fun s w => B1 [s 1, s 2, s 3, s 9, s 14, s 15, s 16] w) s w) tr_id (fun i => (tr_bif (fun s w h => s114_p1_ok K s w @h) tr_id)) (by kernel_rfl) (by kernel_rfl) @h
def s114_p3 (K : Value → World → Prop) (B1 : List Value → World → Prop) (B2 : List Value → World → Prop) (t1 t2 t3 t9 t11 t14 t15 t16 t30 t31 t32 : Value) (w : World) : Prop :=
  boI .add t32 (.int .i64 1) (fun t45 w =>
  B2 [t1, t2, t3, t9, t11, t14, t15, t16, t30, t31, t45] w) w
def s114_p3_den (K : Value → World → Prop) (M1 : (Nat → Value) → World → Prop) (M2 : (Nat → Value) → World → Prop) : (Nat → Value) → World → Prop := denL Tryz.prog [(cd (Tryz.f114.body.getD .skip) [1, 1, 0, 1, 0, 0, 1, 1, 0, 0, 1, 1, 0, 1, 0, 0, 1, 1, 1])] M2 (fun i => (bif Nat.beq i 2 then (s114_p2_den K M1) else (bif Nat.beq i 1 then (s114_p2_den K M1) else (bif Nat.beq i 0 then (s114_p1_den K) else (fun _ _ => False))))) (s114_R K)
theorem s114_p3_ok (K : Value → World → Prop) (B1 : List Value → World → Prop) (B2 : List Value → World → Prop) (s : Nat → Value) (w : World) (h : s114_p3 K B1 B2 (s 1) (s 2) (s 3) (s 9) (s 11) (s 14) (s 15) (s 16) (s 30) (s 31) (s 32) w) : Tr (s114_p3_den K (fun s w => B1 [s 1, s 2, s 3, s 9, s 14, s 15, s 16] w) (fun s w => B2 [s 1, s 2, s 3, s 9, s 11, s 14, s 15, s 16, s 30, s 31, s 32] w) s w) :=
  tr_simple (P := Tryz.prog) (codes := [(cd (Tryz.f114.body.getD .skip) [1, 1, 0, 1, 0, 0, 1, 1, 0, 0, 1, 1, 0, 1, 0, 0, 1, 1, 1])]) (N := (fun s w => B2 [s 1, s 2, s 3, s 9, s 11, s 14, s 15, s 16, s 30, s 31, s 32] w)) (N' := (fun s w => B2 [s 1, s 2, s 3, s 9, s 11, s 14, s 15, s 16, s 30, s 31, s 32] w)) (X := (fun i => (bif Nat.beq i 2 then (fun s w => s114_p2 K B1 (s 1) (s 2) (s 3) (s 9) (s 14) (s 15) (s 16) w) else (bif Nat.beq i 1 then (fun s w => s114_p2 K B1 (s 1) (s 2) (s 3) (s 9) (s 14) (s 15) (s 16) w) else (bif Nat.beq i 0 then (fun s w => s114_p1 K (s 9) w) else (fun _ _ => False)))))) (X' := (fun i => (bif Nat.beq i 2 then (s114_p2_den K (fun s w => B1 [s 1, s 2, s 3, s 9, s 14, s 15, s 16] w)) else (bif Nat.beq i 1 then (s114_p2_den K (fun s w => B1 [s 1, s 2, s 3, s 9, s 14, s 15, s 16] w)) else (bif Nat.beq i 0 then (s114_p1_den K) else (fun _ _ => False)))))) (R := s114_R K) (s := s) (w := w) (p := s114_p3 K B1 B2 (s 1) (s 2) (s 3) (s 9) (s 11) (s 14) (s 15) (s 16) (s 30) (s 31) (s 32) w) (q := s114_p3_den K (fun s w => B1 [s 1, s 2, s 3, s 9, s 14, s 15, s 16] w) (fun s w => B2 [s 1, s 2, s 3, s 9, s 11, s 14, s 15, s 16, s 30, s 31, s 32] w) s w) tr_id (fun i => (tr_bif (fun s w h => s114_p2_ok K B1 s w @h) (tr_bif (fun s w h => s114_p2_ok K B1 s w @h) (tr_bif (fun s w h => s114_p1_ok K s w @h) tr_id)))) (by kernel_rfl) (by kernel_rfl) @h
def s114_p4 (K : Value → World → Prop) (B1 : List Value → World → Prop) (B2 : List Value → World → Prop) (t1 t2 t3 t9 t11 t14 t15 t16 t30 t31 t32 : Value) (w : World) : Prop :=
  boI .lss t32 t31 (fun t33 w =>
  ifb t33
  (ixs 2 t30 t32 (fun t34 w =>
  ldn 2 t34 (fun t35 w =>
  nw 88 #[(.int .i64 0), (.int .i64 0)] (fun t13 w =>
  stn 2 t13 t35 (fun w =>
  ldn 2 t13 (fun t36 w =>
  bdq [(.int .i64 0), (.int .i64 0)] [(some (0, 1), t1), (some (1, 1), t2)] (fun t39 w =>
  bor Tryz.prog .eql 88 (.tmp 36) (.tmp 39) t36 t39 (fun t40 w =>
  ifb t40
  (fd 3 t11 (fun t42 w =>
  ld1 t42 (fun t43 w =>
  boI .add t9 t43 (fun t44 w =>
  s114_p3 K B1 B2 t1 t2 t3 t44 t11 t14 t15 t16 t30 t31 t32 w) w) w) w)
  (s114_p3 K B1 B2 t1 t2 t3 t9 t11 t14 t15 t16 t30 t31 t32 w)) w) w) w) w) w) w) w)
  (s114_p2 K B1 t1 t2 t3 t9 t14 t15 t16 w)) w
def s114_p4_den (K : Value → World → Prop) (M1 : (Nat → Value) → World → Prop) (M2 : (Nat → Value) → World → Prop) : (Nat → Value) → World → Prop := denL Tryz.prog [(cd (Tryz.f114.body.getD .skip) [1, 1, 0, 1, 0, 0, 1, 1, 0, 0, 1, 1, 0, 1, 0, 0, 0]), (cd (Tryz.f114.body.getD .skip) [1, 1, 0, 1, 0, 0, 1, 1, 0, 0, 1, 1, 0, 1, 0, 0, 1, 0]), (cd (Tryz.f114.body.getD .skip) [1, 1, 0, 1, 0, 0, 1, 1, 0, 0, 1, 1, 0, 1, 0, 0, 1, 1, 0])] (s114_p3_den K M1 M2) (fun i => (bif Nat.beq i 2 then (s114_p2_den K M1) else (bif Nat.beq i 1 then (s114_p2_den K M1) else (bif Nat.beq i 0 then (s114_p1_den K) else (fun _ _ => False))))) (s114_R K)
theorem s114_p4_ok (K : Value → World → Prop) (B1 : List Value → World → Prop) (B2 : List Value → World → Prop) (s : Nat → Value) (w : World) (h : s114_p4 K B1 B2 (s 1) (s 2) (s 3) (s 9) (s 11) (s 14) (s 15) (s 16) (s 30) (s 31) (s 32) w) : Tr (s114_p4_den K (fun s w => B1 [s 1, s 2, s 3, s 9, s 14, s 15, s 16] w) (fun s w => B2 [s 1, s 2, s 3, s 9, s 11, s 14, s 15, s 16, s 30, s 31, s 32] w) s w) :=
  tr_simple (P := Tryz.prog) (codes := [(cd (Tryz.f114.body.getD .skip) [1, 1, 0, 1, 0, 0, 1, 1, 0, 0, 1, 1, 0, 1, 0, 0, 0]), (cd (Tryz.f114.body.getD .skip) [1, 1, 0, 1, 0, 0, 1, 1, 0, 0, 1, 1, 0, 1, 0, 0, 1, 0]), (cd (Tryz.f114.body.getD .skip) [1, 1, 0, 1, 0, 0, 1, 1, 0, 0, 1, 1, 0, 1, 0, 0, 1, 1, 0])]) (N := (fun s w => s114_p3 K B1 B2 (s 1) (s 2) (s 3) (s 9) (s 11) (s 14) (s 15) (s 16) (s 30) (s 31) (s 32) w)) (N' := (s114_p3_den K (fun s w => B1 [s 1, s 2, s 3, s 9, s 14, s 15, s 16] w) (fun s w => B2 [s 1, s 2, s 3, s 9, s 11, s 14, s 15, s 16, s 30, s 31, s 32] w))) (X := (fun i => (bif Nat.beq i 2 then (fun s w => s114_p2 K B1 (s 1) (s 2) (s 3) (s 9) (s 14) (s 15) (s 16) w) else (bif Nat.beq i 1 then (fun s w => s114_p2 K B1 (s 1) (s 2) (s 3) (s 9) (s 14) (s 15) (s 16) w) else (bif Nat.beq i 0 then (fun s w => s114_p1 K (s 9) w) else (fun _ _ => False)))))) (X' := (fun i => (bif Nat.beq i 2 then (s114_p2_den K (fun s w => B1 [s 1, s 2, s 3, s 9, s 14, s 15, s 16] w)) else (bif Nat.beq i 1 then (s114_p2_den K (fun s w => B1 [s 1, s 2, s 3, s 9, s 14, s 15, s 16] w)) else (bif Nat.beq i 0 then (s114_p1_den K) else (fun _ _ => False)))))) (R := s114_R K) (s := s) (w := w) (p := s114_p4 K B1 B2 (s 1) (s 2) (s 3) (s 9) (s 11) (s 14) (s 15) (s 16) (s 30) (s 31) (s 32) w) (q := s114_p4_den K (fun s w => B1 [s 1, s 2, s 3, s 9, s 14, s 15, s 16] w) (fun s w => B2 [s 1, s 2, s 3, s 9, s 11, s 14, s 15, s 16, s 30, s 31, s 32] w) s w) (fun s w h => s114_p3_ok K B1 B2 s w @h) (fun i => (tr_bif (fun s w h => s114_p2_ok K B1 s w @h) (tr_bif (fun s w h => s114_p2_ok K B1 s w @h) (tr_bif (fun s w h => s114_p1_ok K s w @h) tr_id)))) (by kernel_rfl) (by kernel_rfl) @h
def s114_p5_F (K : Value → World → Prop) (B1 : List Value → World → Prop) (B2 : List Value → World → Prop) (l : List Value) (w : World) : Prop :=
  match l with
  | [t1, t2, t3, t9, t11, t14, t15, t16, t30, t31, t32] => s114_p4 K B1 B2 t1 t2 t3 t9 t11 t14 t15 t16 t30 t31 t32 w
  | _ => False
theorem s114_p5_Fe {K : Value → World → Prop} {B1 : List Value → World → Prop} {B2 : List Value → World → Prop} {t1 t2 t3 t9 t11 t14 t15 t16 t30 t31 t32 : Value} {w : World} : s114_p5_F K B1 B2 [t1, t2, t3, t9, t11, t14, t15, t16, t30, t31, t32] w = s114_p4 K B1 B2 t1 t2 t3 t9 t11 t14 t15 t16 t30 t31 t32 w := by kernel_rfl
def s114_p5 (K : Value → World → Prop) (B1 : List Value → World → Prop) (t1 t2 t3 t9 t11 t14 t15 t16 t30 t31 t32 : Value) (w : World) : Prop :=
  LoopL (s114_p5_F K B1) [t1, t2, t3, t9, t11, t14, t15, t16, t30, t31, t32] w
def s114_p5_den (K : Value → World → Prop) (M1 : (Nat → Value) → World → Prop) : (Nat → Value) → World → Prop := fun s w => LoopP (fun M2 s w => s114_p4_den K M1 M2 s w) s w
theorem s114_p5_ok (K : Value → World → Prop) (B1 : List Value → World → Prop) (s : Nat → Value) (w : World) (h : s114_p5 K B1 (s 1) (s 2) (s 3) (s 9) (s 11) (s 14) (s 15) (s 16) (s 30) (s 31) (s 32) w) : Tr (s114_p5_den K (fun s w => B1 [s 1, s 2, s 3, s 9, s 14, s 15, s 16] w) s w) :=
  tr_loop (G := fun N' s w => s114_p4_den K (fun s w => B1 [s 1, s 2, s 3, s 9, s 14, s 15, s 16] w) N' s w) (F := s114_p5_F K B1) (sel := fun s => [s 1, s 2, s 3, s 9, s 11, s 14, s 15, s 16, s 30, s 31, s 32]) (s := s) (w := w) (p := s114_p5 K B1 (s 1) (s 2) (s 3) (s 9) (s 11) (s 14) (s 15) (s 16) (s 30) (s 31) (s 32) w) (q := s114_p5_den K (fun s w => B1 [s 1, s 2, s 3, s 9, s 14, s 15, s 16] w) s w) (fun B s w h => s114_p4_ok K B1 B s w @h) (by kernel_rfl) (by kernel_rfl) @h
def s114_p6 (K : Value → World → Prop) (B1 : List Value → World → Prop) (t1 t2 t3 t9 t11 t14 t15 t16 : Value) (w : World) : Prop :=
  fd 6 t11 (fun t29 w =>
  ld1 t29 (fun t30 w =>
  lnS t30 (fun t31 w =>
  s114_p5 K B1 t1 t2 t3 t9 t11 t14 t15 t16 t30 t31 (.int .i64 0) w) w) w) w
def s114_p6_den (K : Value → World → Prop) (M1 : (Nat → Value) → World → Prop) : (Nat → Value) → World → Prop := denL Tryz.prog [(cd (Tryz.f114.body.getD .skip) [1, 1, 0, 1, 0, 0, 1, 1, 0, 0, 1, 1, 0, 0])] (s114_p5_den K M1) (fun i => (bif Nat.beq i 1 then (s114_p2_den K M1) else (bif Nat.beq i 0 then (s114_p1_den K) else (fun _ _ => False)))) (s114_R K)
theorem s114_p6_ok (K : Value → World → Prop) (B1 : List Value → World → Prop) (s : Nat → Value) (w : World) (h : s114_p6 K B1 (s 1) (s 2) (s 3) (s 9) (s 11) (s 14) (s 15) (s 16) w) : Tr (s114_p6_den K (fun s w => B1 [s 1, s 2, s 3, s 9, s 14, s 15, s 16] w) s w) :=
  tr_simple (P := Tryz.prog) (codes := [(cd (Tryz.f114.body.getD .skip) [1, 1, 0, 1, 0, 0, 1, 1, 0, 0, 1, 1, 0, 0])]) (N := (fun s w => s114_p5 K B1 (s 1) (s 2) (s 3) (s 9) (s 11) (s 14) (s 15) (s 16) (s 30) (s 31) (s 32) w)) (N' := (s114_p5_den K (fun s w => B1 [s 1, s 2, s 3, s 9, s 14, s 15, s 16] w))) (X := (fun i => (bif Nat.beq i 1 then (fun s w => s114_p2 K B1 (s 1) (s 2) (s 3) (s 9) (s 14) (s 15) (s 16) w) else (bif Nat.beq i 0 then (fun s w => s114_p1 K (s 9) w) else (fun _ _ => False))))) (X' := (fun i => (bif Nat.beq i 1 then (s114_p2_den K (fun s w => B1 [s 1, s 2, s 3, s 9, s 14, s 15, s 16] w)) else (bif Nat.beq i 0 then (s114_p1_den K) else (fun _ _ => False))))) (R := s114_R K) (s := s) (w := w) (p := s114_p6 K B1 (s 1) (s 2) (s 3) (s 9) (s 11) (s 14) (s 15) (s 16) w) (q := s114_p6_den K (fun s w => B1 [s 1, s 2, s 3, s 9, s 14, s 15, s 16] w) s w) (fun s w h => s114_p5_ok K B1 s w @h) (fun i => (tr_bif (fun s w h => s114_p2_ok K B1 s w @h) (tr_bif (fun s w h => s114_p1_ok K s w @h) tr_id))) (by kernel_rfl) (by kernel_rfl) @h
def s114_p7 (K : Value → World → Prop) (B1 : List Value → World → Prop) (t1 t2 t3 t9 t11 t14 t15 t16 t28 : Value) (w : World) : Prop :=
  ifb t28
  (s114_p6 K B1 t1 t2 t3 t9 t11 t14 t15 t16 w)
  (s114_p2 K B1 t1 t2 t3 t9 t14 t15 t16 w)
def s114_p7_den (K : Value → World → Prop) (M1 : (Nat → Value) → World → Prop) : (Nat → Value) → World → Prop := fun s w => ifb (ev s (.tmp 28)) ((s114_p6_den K M1) s w) ((s114_p2_den K M1) s w)
theorem s114_p7_ok (K : Value → World → Prop) (B1 : List Value → World → Prop) (s : Nat → Value) (w : World) (h : s114_p7 K B1 (s 1) (s 2) (s 3) (s 9) (s 11) (s 14) (s 15) (s 16) (s 28) w) : Tr (s114_p7_den K (fun s w => B1 [s 1, s 2, s 3, s 9, s 14, s 15, s 16] w) s w) :=
  tr_cond (v := ev s (.tmp 28)) (a := (fun s w => s114_p6 K B1 (s 1) (s 2) (s 3) (s 9) (s 11) (s 14) (s 15) (s 16) w) s w) (a' := (s114_p6_den K (fun s w => B1 [s 1, s 2, s 3, s 9, s 14, s 15, s 16] w)) s w) (b := (fun s w => s114_p2 K B1 (s 1) (s 2) (s 3) (s 9) (s 14) (s 15) (s 16) w) s w) (b' := (s114_p2_den K (fun s w => B1 [s 1, s 2, s 3, s 9, s 14, s 15, s 16] w)) s w) (p := s114_p7 K B1 (s 1) (s 2) (s 3) (s 9) (s 11) (s 14) (s 15) (s 16) (s 28) w) (q := s114_p7_den K (fun s w => B1 [s 1, s 2, s 3, s 9, s 14, s 15, s 16] w) s w) ((fun s w h => s114_p6_ok K B1 s w @h) s w) ((fun s w h => s114_p2_ok K B1 s w @h) s w) (by kernel_rfl) (by kernel_rfl) @h
def s114_p8 (K : Value → World → Prop) (B1 : List Value → World → Prop) (t1 t2 t3 t9 t14 t15 t16 : Value) (w : World) : Prop :=
  ixs 7 t14 t16 (fun t18 w =>
  ldn 7 t18 (fun t19 w =>
  nw 85 #[(.int .i64 0), (.int .i64 0), (.int .i64 0), (.int .i64 0), (.int .i64 0), (.int .i64 0), (.slice none 0 0)] (fun t11 w =>
  stn 7 t11 t19 (fun w =>
  fd 1 t11 (fun t20 w =>
  ld1 t20 (fun t21 w =>
  cl Tryz.prog 115 #[t21] (fun t22 w =>
  gd t22 true (fd 2 t11) (fun t24 w =>
  gd t22 true (ld1 t24) (fun t25 w =>
  gd t22 true (fun K w => K t3 w) (fun t26 w =>
  gd t22 true (boI .eql t25 t26) (fun t27 w =>
  pk t22 t27 (.bool false) (fun t28 w =>
  s114_p7 K B1 t1 t2 t3 t9 t11 t14 t15 t16 t28 w) w) w) w) w) w) w) w) w) w) w) w) w
def s114_p8_den (K : Value → World → Prop) (M1 : (Nat → Value) → World → Prop) : (Nat → Value) → World → Prop := denL Tryz.prog [(cd (Tryz.f114.body.getD .skip) [1, 1, 0, 1, 0, 0, 1, 1, 0, 0, 0]), (cd (Tryz.f114.body.getD .skip) [1, 1, 0, 1, 0, 0, 1, 1, 0, 0, 1, 0])] (s114_p7_den K M1) (fun i => (bif Nat.beq i 1 then (s114_p2_den K M1) else (bif Nat.beq i 0 then (s114_p1_den K) else (fun _ _ => False)))) (s114_R K)
theorem s114_p8_ok (K : Value → World → Prop) (B1 : List Value → World → Prop) (s : Nat → Value) (w : World) (h : s114_p8 K B1 (s 1) (s 2) (s 3) (s 9) (s 14) (s 15) (s 16) w) : Tr (s114_p8_den K (fun s w => B1 [s 1, s 2, s 3, s 9, s 14, s 15, s 16] w) s w) :=
  tr_simple (P := Tryz.prog) (codes := [(cd (Tryz.f114.body.getD .skip) [1, 1, 0, 1, 0, 0, 1, 1, 0, 0, 0]), (cd (Tryz.f114.body.getD .skip) [1, 1, 0, 1, 0, 0, 1, 1, 0, 0, 1, 0])]) (N := (fun s w => s114_p7 K B1 (s 1) (s 2) (s 3) (s 9) (s 11) (s 14) (s 15) (s 16) (s 28) w)) (N' := (s114_p7_den K (fun s w => B1 [s 1, s 2, s 3, s 9, s 14, s 15, s 16] w))) (X := (fun i => (bif Nat.beq i 1 then (fun s w => s114_p2 K B1 (s 1) (s 2) (s 3) (s 9) (s 14) (s 15) (s 16) w) else (bif Nat.beq i 0 then (fun s w => s114_p1 K (s 9) w) else (fun _ _ => False))))) (X' := (fun i => (bif Nat.beq i 1 then (s114_p2_den K (fun s w => B1 [s 1, s 2, s 3, s 9, s 14, s 15, s 16] w)) else (bif Nat.beq i 0 then (s114_p1_den K) else (fun _ _ => False))))) (R := s114_R K) (s := s) (w := w) (p := s114_p8 K B1 (s 1) (s 2) (s 3) (s 9) (s 14) (s 15) (s 16) w) (q := s114_p8_den K (fun s w => B1 [s 1, s 2, s 3, s 9, s 14, s 15, s 16] w) s w) (fun s w h => s114_p7_ok K B1 s w @h) (fun i => (tr_bif (fun s w h => s114_p2_ok K B1 s w @h) (tr_bif (fun s w h => s114_p1_ok K s w @h) tr_id))) (by kernel_rfl) (by kernel_rfl) @h
def s114_p9 (K : Value → World → Prop) (B1 : List Value → World → Prop) (t1 t2 t3 t9 t14 t15 t16 : Value) (w : World) : Prop :=
  boI .lss t16 t15 (fun t17 w =>
  ifb t17
  (s114_p8 K B1 t1 t2 t3 t9 t14 t15 t16 w)
  (s114_p1 K t9 w)) w
def s114_p9_den (K : Value → World → Prop) (M1 : (Nat → Value) → World → Prop) : (Nat → Value) → World → Prop := denL Tryz.prog [(cd (Tryz.f114.body.getD .skip) [1, 1, 0, 1, 0, 0, 0]), (cd (Tryz.f114.body.getD .skip) [1, 1, 0, 1, 0, 0, 1, 0])] (s114_p8_den K M1) (fun i => (bif Nat.beq i 0 then (s114_p1_den K) else (fun _ _ => False))) (s114_R K)
theorem s114_p9_ok (K : Value → World → Prop) (B1 : List Value → World → Prop) (s : Nat → Value) (w : World) (h : s114_p9 K B1 (s 1) (s 2) (s 3) (s 9) (s 14) (s 15) (s 16) w) : Tr (s114_p9_den K (fun s w => B1 [s 1, s 2, s 3, s 9, s 14, s 15, s 16] w) s w) :=
  tr_simple (P := Tryz.prog) (codes := [(cd (Tryz.f114.body.getD .skip) [1, 1, 0, 1, 0, 0, 0]), (cd (Tryz.f114.body.getD .skip) [1, 1, 0, 1, 0, 0, 1, 0])]) (N := (fun s w => s114_p8 K B1 (s 1) (s 2) (s 3) (s 9) (s 14) (s 15) (s 16) w)) (N' := (s114_p8_den K (fun s w => B1 [s 1, s 2, s 3, s 9, s 14, s 15, s 16] w))) (X := (fun i => (bif Nat.beq i 0 then (fun s w => s114_p1 K (s 9) w) else (fun _ _ => False)))) (X' := (fun i => (bif Nat.beq i 0 then (s114_p1_den K) else (fun _ _ => False)))) (R := s114_R K) (s := s) (w := w) (p := s114_p9 K B1 (s 1) (s 2) (s 3) (s 9) (s 14) (s 15) (s 16) w) (q := s114_p9_den K (fun s w => B1 [s 1, s 2, s 3, s 9, s 14, s 15, s 16] w) s w) (fun s w h => s114_p8_ok K B1 s w @h) (fun i => (tr_bif (fun s w h => s114_p1_ok K s w @h) tr_id)) (by kernel_rfl) (by kernel_rfl) @h
def s114_p10_F (K : Value → World → Prop) (B1 : List Value → World → Prop) (l : List Value) (w : World) : Prop :=
  match l with
  | [t1, t2, t3, t9, t14, t15, t16] => s114_p9 K B1 t1 t2 t3 t9 t14 t15 t16 w
  | _ => False
theorem s114_p10_Fe {K : Value → World → Prop} {B1 : List Value → World → Prop} {t1 t2 t3 t9 t14 t15 t16 : Value} {w : World} : s114_p10_F K B1 [t1, t2, t3, t9, t14, t15, t16] w = s114_p9 K B1 t1 t2 t3 t9 t14 t15 t16 w := by kernel_rfl
def s114_p10 (K : Value → World → Prop) (t1 t2 t3 t9 t14 t15 t16 : Value) (w : World) : Prop :=
  LoopL (s114_p10_F K) [t1, t2, t3, t9, t14, t15, t16] w
def s114_p10_den (K : Value → World → Prop) : (Nat → Value) → World → Prop := fun s w => LoopP (fun M1 s w => s114_p9_den K M1 s w) s w
theorem s114_p10_ok (K : Value → World → Prop) (s : Nat → Value) (w : World) (h : s114_p10 K (s 1) (s 2) (s 3) (s 9) (s 14) (s 15) (s 16) w) : Tr (s114_p10_den K s w) :=
  tr_loop (G := fun N' s w => s114_p9_den K N' s w) (F := s114_p10_F K) (sel := fun s => [s 1, s 2, s 3, s 9, s 14, s 15, s 16]) (s := s) (w := w) (p := s114_p10 K (s 1) (s 2) (s 3) (s 9) (s 14) (s 15) (s 16) w) (q := s114_p10_den K s w) (fun B s w h => s114_p9_ok K B s w @h) (by kernel_rfl) (by kernel_rfl) @h
def s114_p11 (K : Value → World → Prop) (t0 t1 t2 t3 : Value) (w : World) : Prop :=
  lnS t0 (fun t15 w =>
  s114_p10 K t1 t2 t3 (.int .i64 0) t0 t15 (.int .i64 0) w) w
def s114_p11_den (K : Value → World → Prop) : (Nat → Value) → World → Prop := denL Tryz.prog [(cd (Tryz.f114.body.getD .skip) [0]), (cd (Tryz.f114.body.getD .skip) [1, 0]), (cd (Tryz.f114.body.getD .skip) [1, 1, 0, 0])] (s114_p10_den K) (fun i => (fun _ _ => False)) (s114_R K)
theorem s114_p11_ok (K : Value → World → Prop) (s : Nat → Value) (w : World) (h : s114_p11 K (s 0) (s 1) (s 2) (s 3) w) : Tr (s114_p11_den K s w) :=
  tr_simple (P := Tryz.prog) (codes := [(cd (Tryz.f114.body.getD .skip) [0]), (cd (Tryz.f114.body.getD .skip) [1, 0]), (cd (Tryz.f114.body.getD .skip) [1, 1, 0, 0])]) (N := (fun s w => s114_p10 K (s 1) (s 2) (s 3) (s 9) (s 14) (s 15) (s 16) w)) (N' := (s114_p10_den K)) (X := (fun i => (fun _ _ => False))) (X' := (fun i => (fun _ _ => False))) (R := s114_R K) (s := s) (w := w) (p := s114_p11 K (s 0) (s 1) (s 2) (s 3) w) (q := s114_p11_den K s w) (fun s w h => s114_p10_ok K s w @h) (fun i => tr_id) (by kernel_rfl) (by kernel_rfl) @h
/-- the call, from the text -/
theorem c114 (t0 t1 t2 t3 : Value) {K : Value → World → Prop} {w : World} (h : s114_p11 K t0 t1 t2 t3 w) : cl Tryz.prog 114 #[t0, t1, t2, t3] K w :=
  calls_of_tr (c := (Tryz.f114.body.getD .skip)) (fn := Tryz.f114) (q := s114_p11_den K (st0 #[t0, t1, t2, t3]) w) Tryz.func114 (by kernel_rfl) (by kernel_rfl) (Nat.le_of_ble_eq_true (by kernel_rfl)) (by kernel_rfl) (by kernel_rfl) (s114_p11_ok K (st0 #[t0, t1, t2, t3]) w @h)

/-! ### function 115 : e2e.enginelaw.live -/
def s115_R (K : Value → World → Prop) (s : Nat → Value) (w : World) : Prop := retv Tryz.prog s Tryz.f115.results.toList (fun vs => K (pack vs) w) w
def s115_p1 (K : Value → World → Prop) (t0 : Value) (w : World) : Prop :=
  boI .eql t0 (.int .i64 1) (fun t4 w =>
  gd t4 false (fun K w => K t0 w) (fun t6 w =>
  gd t4 false (boI .eql t6 (.int .i64 2)) (fun t7 w =>
  pk t4 (.bool true) t7 (fun t8 w =>
  gd t8 false (fun K w => K t0 w) (fun t10 w =>
  gd t8 false (boI .eql t10 (.int .i64 3)) (fun t11 w =>
  pk t8 (.bool true) t11 (fun t12 w =>
  gd t12 false (fun K w => K t0 w) (fun t14 w =>
  gd t12 false (boI .eql t14 (.int .i64 8)) (fun t15 w =>
  pk t12 (.bool true) t15 (fun t16 w =>
  K t16 w) w) w) w) w) w) w) w) w) w) w
def s115_p1_den (K : Value → World → Prop) : (Nat → Value) → World → Prop := denL Tryz.prog [(cd (Tryz.f115.body.getD .skip) [0]), (cd (Tryz.f115.body.getD .skip) [1, 0]), (cd (Tryz.f115.body.getD .skip) [1, 1])] (fun _ _ => False) (fun i => (fun _ _ => False)) (s115_R K)
theorem s115_p1_ok (K : Value → World → Prop) (s : Nat → Value) (w : World) (h : s115_p1 K (s 0) w) : Tr (s115_p1_den K s w) :=
  tr_simple (P := Tryz.prog) (codes := [(cd (Tryz.f115.body.getD .skip) [0]), (cd (Tryz.f115.body.getD .skip) [1, 0]), (cd (Tryz.f115.body.getD .skip) [1, 1])]) (N := (fun _ _ => False)) (N' := (fun _ _ => False)) (X := (fun i => (fun _ _ => False))) (X' := (fun i => (fun _ _ => False))) (R := s115_R K) (s := s) (w := w) (p := s115_p1 K (s 0) w) (q := s115_p1_den K s w) tr_id (fun i => tr_id) (by kernel_rfl) (by kernel_rfl) @h
/-- the call, from the text -/
theorem c115 (t0 : Value) {K : Value → World → Prop} {w : World} (h : s115_p1 K t0 w) : cl Tryz.prog 115 #[t0] K w :=
  calls_of_tr (c := (Tryz.f115.body.getD .skip)) (fn := Tryz.f115) (q := s115_p1_den K (st0 #[t0]) w) Tryz.func115 (by kernel_rfl) (by kernel_rfl) (Nat.le_of_ble_eq_true (by kernel_rfl)) (by kernel_rfl) (by kernel_rfl) (s115_p1_ok K (st0 #[t0]) w @h)

/-! ### function 5 : e2e.enginelaw.OccupancyBound -/
def s5_R (K : Value → World → Prop) (s : Nat → Value) (w : World) : Prop := retv Tryz.prog s Tryz.f5.results.toList (fun vs => K (pack vs) w) w
def s5_p1 (K : Value → World → Prop) (w : World) : Prop :=
  K (.bool true) w
def s5_p1_den (K : Value → World → Prop) : (Nat → Value) → World → Prop := denL Tryz.prog [(cd (Tryz.f5.body.getD .skip) [1, 1, 1, 1, 1, 0]), (cd (Tryz.f5.body.getD .skip) [1, 1, 1, 1, 1, 1])] (fun _ _ => False) (fun i => (fun _ _ => False)) (s5_R K)
theorem s5_p1_ok (K : Value → World → Prop) (s : Nat → Value) (w : World) (h : s5_p1 K w) : Tr (s5_p1_den K s w) :=
  tr_simple (P := Tryz.prog) (codes := [(cd (Tryz.f5.body.getD .skip) [1, 1, 1, 1, 1, 0]), (cd (Tryz.f5.body.getD .skip) [1, 1, 1, 1, 1, 1])]) (N := (fun _ _ => False)) (N' := (fun _ _ => False)) (X := (fun i => (fun _ _ => False))) (X' := (fun i => (fun _ _ => False))) (R := s5_R K) (s := s) (w := w) (p := s5_p1 K w) (q := s5_p1_den K s w) tr_id (fun i => tr_id) (by kernel_rfl) (by kernel_rfl) @h
def s5_p2 (K : Value → World → Prop) (B1 : List Value → World → Prop) (t3 t4 t15 t16 t17 : Value) (w : World) : Prop :=
  boI .add t17 (.int .i64 1) (fun t61 w =>
  B1 [t3, t4, t15, t16, t61] w) w
def s5_p2_den (K : Value → World → Prop) (M1 : (Nat → Value) → World → Prop) : (Nat → Value) → World → Prop := denL Tryz.prog [(cd (Tryz.f5.body.getD .skip) [1, 1, 1, 1, 0, 1, 0, 0, 1, 1, 1])] M1 (fun i => (bif Nat.beq i 0 then (s5_p1_den K) else (fun _ _ => False))) (s5_R K)
theorem s5_p2_ok (K : Value → World → Prop) (B1 : List Value → World → Prop) (s : Nat → Value) (w : World) (h : s5_p2 K B1 (s 3) (s 4) (s 15) (s 16) (s 17) w) : Tr (s5_p2_den K (fun s w => B1 [s 3, s 4, s 15, s 16, s 17] w) s w) :=
  tr_simple (P := Tryz.prog) (codes := [(cd (Tryz.f5.body.getD .skip) [1, 1, 1, 1, 0, 1, 0, 0, 1, 1, 1])]) (N := (fun s w => B1 [s 3, s 4, s 15, s 16, s 17] w)) (N' := (fun s w => B1 [s 3, s 4, s 15, s 16, s 17] w)) (X := (fun i => (bif Nat.beq i 0 then (fun s w => s5_p1 K w) else (fun _ _ => False)))) (X' := (fun i => (bif Nat.beq i 0 then (s5_p1_den K) else (fun _ _ => False)))) (R := s5_R K) (s := s) (w := w) (p := s5_p2 K B1 (s 3) (s 4) (s 15) (s 16) (s 17) w) (q := s5_p2_den K (fun s w => B1 [s 3, s 4, s 15, s 16, s 17] w) s w) tr_id (fun i => (tr_bif (fun s w h => s5_p1_ok K s w @h) tr_id)) (by kernel_rfl) (by kernel_rfl) @h
def s5_p3 (K : Value → World → Prop) (B1 : List Value → World → Prop) (t3 t4 t15 t16 t17 : Value) (w : World) : Prop :=
  cl Tryz.prog 34 #[t3] (fun t47 w =>
  gd t47 true (fun K w => K t4 w) (fun t49 w =>
  gd t47 true (cl Tryz.prog 35 #[t49]) (fun t50 w =>
  gd t47 true (un .not t50) (fun t51 w =>
  gd t47 true (fun K w => K t51 w) (fun t52 w =>
  gd t52 false (fun K w => K t3 w) (fun t53 w =>
  gd t52 false (nck t53) (fun t54 w =>
  gd t52 false (fd 1 t54) (fun t55 w =>
  gd t52 false (ld1 t55) (fun t56 w =>
  gd t52 false (cl Tryz.prog 36 #[t56]) (fun t57 w =>
  gd t52 false (un .not t57) (fun t58 w =>
  gd t47 true (pk t52 (.bool true) t58) (fun t59 w =>
  pk t47 t59 (.bool false) (fun t60 w =>
  ifb t60
  (K (.bool false) w)
  (s5_p2 K B1 t3 t4 t15 t16 t17 w)) w) w) w) w) w) w) w) w) w) w) w) w) w
def s5_p3_den (K : Value → World → Prop) (M1 : (Nat → Value) → World → Prop) : (Nat → Value) → World → Prop := denL Tryz.prog [(cd (Tryz.f5.body.getD .skip) [1, 1, 1, 1, 0, 1, 0, 0, 1, 1, 0, 0, 1, 1, 0]), (cd (Tryz.f5.body.getD .skip) [1, 1, 1, 1, 0, 1, 0, 0, 1, 1, 0, 0, 1, 1, 1])] (s5_p2_den K M1) (fun i => (bif Nat.beq i 1 then (s5_p2_den K M1) else (bif Nat.beq i 0 then (s5_p1_den K) else (fun _ _ => False)))) (s5_R K)
theorem s5_p3_ok (K : Value → World → Prop) (B1 : List Value → World → Prop) (s : Nat → Value) (w : World) (h : s5_p3 K B1 (s 3) (s 4) (s 15) (s 16) (s 17) w) : Tr (s5_p3_den K (fun s w => B1 [s 3, s 4, s 15, s 16, s 17] w) s w) :=
  tr_simple (P := Tryz.prog) (codes := [(cd (Tryz.f5.body.getD .skip) [1, 1, 1, 1, 0, 1, 0, 0, 1, 1, 0, 0, 1, 1, 0]), (cd (Tryz.f5.body.getD .skip) [1, 1, 1, 1, 0, 1, 0, 0, 1, 1, 0, 0, 1, 1, 1])]) (N := (fun s w => s5_p2 K B1 (s 3) (s 4) (s 15) (s 16) (s 17) w)) (N' := (s5_p2_den K (fun s w => B1 [s 3, s 4, s 15, s 16, s 17] w))) (X := (fun i => (bif Nat.beq i 1 then (fun s w => s5_p2 K B1 (s 3) (s 4) (s 15) (s 16) (s 17) w) else (bif Nat.beq i 0 then (fun s w => s5_p1 K w) else (fun _ _ => False))))) (X' := (fun i => (bif Nat.beq i 1 then (s5_p2_den K (fun s w => B1 [s 3, s 4, s 15, s 16, s 17] w)) else (bif Nat.beq i 0 then (s5_p1_den K) else (fun _ _ => False))))) (R := s5_R K) (s := s) (w := w) (p := s5_p3 K B1 (s 3) (s 4) (s 15) (s 16) (s 17) w) (q := s5_p3_den K (fun s w => B1 [s 3, s 4, s 15, s 16, s 17] w) s w) (fun s w h => s5_p2_ok K B1 s w @h) (fun i => (tr_bif (fun s w h => s5_p2_ok K B1 s w @h) (tr_bif (fun s w h => s5_p1_ok K s w @h) tr_id))) (by kernel_rfl) (by kernel_rfl) @h
def s5_p4 (K : Value → World → Prop) (B1 : List Value → World → Prop) (t3 t4 t6 t15 t16 t17 : Value) (w : World) : Prop :=
  fd 1 t6 (fun t27 w =>
  ld1 t27 (fun t28 w =>
  cl Tryz.prog 24 #[t3, t28] (fun t29 w =>
  s5_p3 K B1 t3 t4 t15 t16 t17 w) w) w) w
def s5_p4_den (K : Value → World → Prop) (M1 : (Nat → Value) → World → Prop) : (Nat → Value) → World → Prop := denL Tryz.prog [(cd (Tryz.f5.body.getD .skip) [1, 1, 1, 1, 0, 1, 0, 0, 1, 1, 0, 0, 1, 0, 1, 0, 1, 0])] (s5_p3_den K M1) (fun i => (bif Nat.beq i 2 then (s5_p3_den K M1) else (bif Nat.beq i 1 then (s5_p2_den K M1) else (bif Nat.beq i 0 then (s5_p1_den K) else (fun _ _ => False))))) (s5_R K)
theorem s5_p4_ok (K : Value → World → Prop) (B1 : List Value → World → Prop) (s : Nat → Value) (w : World) (h : s5_p4 K B1 (s 3) (s 4) (s 6) (s 15) (s 16) (s 17) w) : Tr (s5_p4_den K (fun s w => B1 [s 3, s 4, s 15, s 16, s 17] w) s w) :=
  tr_simple (P := Tryz.prog) (codes := [(cd (Tryz.f5.body.getD .skip) [1, 1, 1, 1, 0, 1, 0, 0, 1, 1, 0, 0, 1, 0, 1, 0, 1, 0])]) (N := (fun s w => s5_p3 K B1 (s 3) (s 4) (s 15) (s 16) (s 17) w)) (N' := (s5_p3_den K (fun s w => B1 [s 3, s 4, s 15, s 16, s 17] w))) (X := (fun i => (bif Nat.beq i 2 then (fun s w => s5_p3 K B1 (s 3) (s 4) (s 15) (s 16) (s 17) w) else (bif Nat.beq i 1 then (fun s w => s5_p2 K B1 (s 3) (s 4) (s 15) (s 16) (s 17) w) else (bif Nat.beq i 0 then (fun s w => s5_p1 K w) else (fun _ _ => False)))))) (X' := (fun i => (bif Nat.beq i 2 then (s5_p3_den K (fun s w => B1 [s 3, s 4, s 15, s 16, s 17] w)) else (bif Nat.beq i 1 then (s5_p2_den K (fun s w => B1 [s 3, s 4, s 15, s 16, s 17] w)) else (bif Nat.beq i 0 then (s5_p1_den K) else (fun _ _ => False)))))) (R := s5_R K) (s := s) (w := w) (p := s5_p4 K B1 (s 3) (s 4) (s 6) (s 15) (s 16) (s 17) w) (q := s5_p4_den K (fun s w => B1 [s 3, s 4, s 15, s 16, s 17] w) s w) (fun s w h => s5_p3_ok K B1 s w @h) (fun i => (tr_bif (fun s w h => s5_p3_ok K B1 s w @h) (tr_bif (fun s w h => s5_p2_ok K B1 s w @h) (tr_bif (fun s w h => s5_p1_ok K s w @h) tr_id)))) (by kernel_rfl) (by kernel_rfl) @h
def s5_p5_d (K : Value → World → Prop) (B1 : List Value → World → Prop) (t3 t4 t6 t15 t16 t17 : Value) (w0 w : World) : Prop :=
  nck t3 (fun t33 _ =>
  fd 0 t33 (fun t34 _ =>
  ld1 t34 (fun t35 _ =>
  fd 2 t6 (fun t36 _ =>
  ld1 t36 (fun t37 _ =>
  fd 3 t6 (fun t38 _ =>
  ld1 t38 (fun t39 _ =>
  cl Tryz.prog 32 #[t35, t37, t39] (fun t40 w =>
  s5_p3 K B1 t3 t4 t15 t16 t17 w) w) w0) w0) w0) w0) w0) w0) w0
def s5_p5 (K : Value → World → Prop) (B1 : List Value → World → Prop) (t3 t4 t6 t15 t16 t17 : Value) (w : World) : Prop := s5_p5_d K B1 t3 t4 t6 t15 t16 t17 (drw w) (drw w)
def s5_p5_den (K : Value → World → Prop) (M1 : (Nat → Value) → World → Prop) : (Nat → Value) → World → Prop := denL Tryz.prog [(cd (Tryz.f5.body.getD .skip) [1, 1, 1, 1, 0, 1, 0, 0, 1, 1, 0, 0, 1, 0, 1, 0, 1, 1, 1, 0])] (s5_p3_den K M1) (fun i => (bif Nat.beq i 2 then (s5_p3_den K M1) else (bif Nat.beq i 1 then (s5_p2_den K M1) else (bif Nat.beq i 0 then (s5_p1_den K) else (fun _ _ => False))))) (s5_R K)
theorem s5_p5_ok (K : Value → World → Prop) (B1 : List Value → World → Prop) (s : Nat → Value) (w : World) (h : s5_p5 K B1 (s 3) (s 4) (s 6) (s 15) (s 16) (s 17) w) : Tr (s5_p5_den K (fun s w => B1 [s 3, s 4, s 15, s 16, s 17] w) s w) :=
  tr_draw (P := Tryz.prog) (ops := (ro (cd (Tryz.f5.body.getD .skip) [1, 1, 1, 1, 0, 1, 0, 0, 1, 1, 0, 0, 1, 0, 1, 0, 1, 1, 1, 0]))) (ms := [0, 1, 3, 7, 0, 16, 0, 64, 255]) (cs := [0, 1, 2, 3, 4, 5, 6, 7]) (N := (fun s w => s5_p3 K B1 (s 3) (s 4) (s 15) (s 16) (s 17) w)) (N' := (s5_p3_den K (fun s w => B1 [s 3, s 4, s 15, s 16, s 17] w))) (s := s) (w := w) (p := s5_p5 K B1 (s 3) (s 4) (s 6) (s 15) (s 16) (s 17) w) (q := s5_p5_den K (fun s w => B1 [s 3, s 4, s 15, s 16, s 17] w) s w) (by kernel_rfl) (by kernel_rfl) (fun s w h => s5_p3_ok K B1 s w @h) (by kernel_rfl) (by kernel_rfl) @h
def s5_p6 (K : Value → World → Prop) (B1 : List Value → World → Prop) (t3 t4 t6 t15 t16 t17 t22 : Value) (w : World) : Prop :=
  boI .eql t22 (.int .i64 2) (fun t42 w =>
  ifb t42
  (ldn 4 t6 (fun t44 w =>
  cl Tryz.prog 33 #[t3, t44] (fun t45 w =>
  s5_p3 K B1 t3 t4 t15 t16 t17 w) w) w)
  (s5_p3 K B1 t3 t4 t15 t16 t17 w)) w
def s5_p6_den (K : Value → World → Prop) (M1 : (Nat → Value) → World → Prop) : (Nat → Value) → World → Prop := denL Tryz.prog [(cd (Tryz.f5.body.getD .skip) [1, 1, 1, 1, 0, 1, 0, 0, 1, 1, 0, 0, 1, 0, 1, 0, 1, 1, 1, 1, 0]), (cd (Tryz.f5.body.getD .skip) [1, 1, 1, 1, 0, 1, 0, 0, 1, 1, 0, 0, 1, 0, 1, 0, 1, 1, 1, 1, 1])] (s5_p3_den K M1) (fun i => (bif Nat.beq i 2 then (s5_p3_den K M1) else (bif Nat.beq i 1 then (s5_p2_den K M1) else (bif Nat.beq i 0 then (s5_p1_den K) else (fun _ _ => False))))) (s5_R K)
theorem s5_p6_ok (K : Value → World → Prop) (B1 : List Value → World → Prop) (s : Nat → Value) (w : World) (h : s5_p6 K B1 (s 3) (s 4) (s 6) (s 15) (s 16) (s 17) (s 22) w) : Tr (s5_p6_den K (fun s w => B1 [s 3, s 4, s 15, s 16, s 17] w) s w) :=
  tr_simple (P := Tryz.prog) (codes := [(cd (Tryz.f5.body.getD .skip) [1, 1, 1, 1, 0, 1, 0, 0, 1, 1, 0, 0, 1, 0, 1, 0, 1, 1, 1, 1, 0]), (cd (Tryz.f5.body.getD .skip) [1, 1, 1, 1, 0, 1, 0, 0, 1, 1, 0, 0, 1, 0, 1, 0, 1, 1, 1, 1, 1])]) (N := (fun s w => s5_p3 K B1 (s 3) (s 4) (s 15) (s 16) (s 17) w)) (N' := (s5_p3_den K (fun s w => B1 [s 3, s 4, s 15, s 16, s 17] w))) (X := (fun i => (bif Nat.beq i 2 then (fun s w => s5_p3 K B1 (s 3) (s 4) (s 15) (s 16) (s 17) w) else (bif Nat.beq i 1 then (fun s w => s5_p2 K B1 (s 3) (s 4) (s 15) (s 16) (s 17) w) else (bif Nat.beq i 0 then (fun s w => s5_p1 K w) else (fun _ _ => False)))))) (X' := (fun i => (bif Nat.beq i 2 then (s5_p3_den K (fun s w => B1 [s 3, s 4, s 15, s 16, s 17] w)) else (bif Nat.beq i 1 then (s5_p2_den K (fun s w => B1 [s 3, s 4, s 15, s 16, s 17] w)) else (bif Nat.beq i 0 then (s5_p1_den K) else (fun _ _ => False)))))) (R := s5_R K) (s := s) (w := w) (p := s5_p6 K B1 (s 3) (s 4) (s 6) (s 15) (s 16) (s 17) (s 22) w) (q := s5_p6_den K (fun s w => B1 [s 3, s 4, s 15, s 16, s 17] w) s w) (fun s w h => s5_p3_ok K B1 s w @h) (fun i => (tr_bif (fun s w h => s5_p3_ok K B1 s w @h) (tr_bif (fun s w h => s5_p2_ok K B1 s w @h) (tr_bif (fun s w h => s5_p1_ok K s w @h) tr_id)))) (by kernel_rfl) (by kernel_rfl) @h
def s5_p7 (K : Value → World → Prop) (B1 : List Value → World → Prop) (t3 t4 t6 t15 t16 t17 t22 t30 : Value) (w : World) : Prop :=
  ifb t30
  (s5_p5 K B1 t3 t4 t6 t15 t16 t17 w)
  (s5_p6 K B1 t3 t4 t6 t15 t16 t17 t22 w)
def s5_p7_den (K : Value → World → Prop) (M1 : (Nat → Value) → World → Prop) : (Nat → Value) → World → Prop := fun s w => ifb (ev s (.tmp 30)) ((s5_p5_den K M1) s w) ((s5_p6_den K M1) s w)
theorem s5_p7_ok (K : Value → World → Prop) (B1 : List Value → World → Prop) (s : Nat → Value) (w : World) (h : s5_p7 K B1 (s 3) (s 4) (s 6) (s 15) (s 16) (s 17) (s 22) (s 30) w) : Tr (s5_p7_den K (fun s w => B1 [s 3, s 4, s 15, s 16, s 17] w) s w) :=
  tr_cond (v := ev s (.tmp 30)) (a := (fun s w => s5_p5 K B1 (s 3) (s 4) (s 6) (s 15) (s 16) (s 17) w) s w) (a' := (s5_p5_den K (fun s w => B1 [s 3, s 4, s 15, s 16, s 17] w)) s w) (b := (fun s w => s5_p6 K B1 (s 3) (s 4) (s 6) (s 15) (s 16) (s 17) (s 22) w) s w) (b' := (s5_p6_den K (fun s w => B1 [s 3, s 4, s 15, s 16, s 17] w)) s w) (p := s5_p7 K B1 (s 3) (s 4) (s 6) (s 15) (s 16) (s 17) (s 22) (s 30) w) (q := s5_p7_den K (fun s w => B1 [s 3, s 4, s 15, s 16, s 17] w) s w) ((fun s w h => s5_p5_ok K B1 s w @h) s w) ((fun s w h => s5_p6_ok K B1 s w @h) s w) (by kernel_rfl) (by kernel_rfl) @h
def s5_p8 (K : Value → World → Prop) (B1 : List Value → World → Prop) (t3 t4 t6 t15 t16 t17 t22 : Value) (w : World) : Prop :=
  boI .eql t22 (.int .i64 1) (fun t31 w =>
  s5_p7 K B1 t3 t4 t6 t15 t16 t17 t22 t31 w) w
def s5_p8_den (K : Value → World → Prop) (M1 : (Nat → Value) → World → Prop) : (Nat → Value) → World → Prop := denL Tryz.prog [(cd (Tryz.f5.body.getD .skip) [1, 1, 1, 1, 0, 1, 0, 0, 1, 1, 0, 0, 1, 0, 1, 0, 1, 1, 0])] (s5_p7_den K M1) (fun i => (bif Nat.beq i 2 then (s5_p3_den K M1) else (bif Nat.beq i 1 then (s5_p2_den K M1) else (bif Nat.beq i 0 then (s5_p1_den K) else (fun _ _ => False))))) (s5_R K)
theorem s5_p8_ok (K : Value → World → Prop) (B1 : List Value → World → Prop) (s : Nat → Value) (w : World) (h : s5_p8 K B1 (s 3) (s 4) (s 6) (s 15) (s 16) (s 17) (s 22) w) : Tr (s5_p8_den K (fun s w => B1 [s 3, s 4, s 15, s 16, s 17] w) s w) :=
  tr_simple (P := Tryz.prog) (codes := [(cd (Tryz.f5.body.getD .skip) [1, 1, 1, 1, 0, 1, 0, 0, 1, 1, 0, 0, 1, 0, 1, 0, 1, 1, 0])]) (N := (fun s w => s5_p7 K B1 (s 3) (s 4) (s 6) (s 15) (s 16) (s 17) (s 22) (s 30) w)) (N' := (s5_p7_den K (fun s w => B1 [s 3, s 4, s 15, s 16, s 17] w))) (X := (fun i => (bif Nat.beq i 2 then (fun s w => s5_p3 K B1 (s 3) (s 4) (s 15) (s 16) (s 17) w) else (bif Nat.beq i 1 then (fun s w => s5_p2 K B1 (s 3) (s 4) (s 15) (s 16) (s 17) w) else (bif Nat.beq i 0 then (fun s w => s5_p1 K w) else (fun _ _ => False)))))) (X' := (fun i => (bif Nat.beq i 2 then (s5_p3_den K (fun s w => B1 [s 3, s 4, s 15, s 16, s 17] w)) else (bif Nat.beq i 1 then (s5_p2_den K (fun s w => B1 [s 3, s 4, s 15, s 16, s 17] w)) else (bif Nat.beq i 0 then (s5_p1_den K) else (fun _ _ => False)))))) (R := s5_R K) (s := s) (w := w) (p := s5_p8 K B1 (s 3) (s 4) (s 6) (s 15) (s 16) (s 17) (s 22) w) (q := s5_p8_den K (fun s w => B1 [s 3, s 4, s 15, s 16, s 17] w) s w) (fun s w h => s5_p7_ok K B1 s w @h) (fun i => (tr_bif (fun s w h => s5_p3_ok K B1 s w @h) (tr_bif (fun s w h => s5_p2_ok K B1 s w @h) (tr_bif (fun s w h => s5_p1_ok K s w @h) tr_id)))) (by kernel_rfl) (by kernel_rfl) @h
def s5_p9 (K : Value → World → Prop) (B1 : List Value → World → Prop) (t3 t4 t6 t15 t16 t17 t22 t23 : Value) (w : World) : Prop :=
  ifb t23
  (s5_p4 K B1 t3 t4 t6 t15 t16 t17 w)
  (s5_p8 K B1 t3 t4 t6 t15 t16 t17 t22 w)
def s5_p9_den (K : Value → World → Prop) (M1 : (Nat → Value) → World → Prop) : (Nat → Value) → World → Prop := fun s w => ifb (ev s (.tmp 23)) ((s5_p4_den K M1) s w) ((s5_p8_den K M1) s w)
theorem s5_p9_ok (K : Value → World → Prop) (B1 : List Value → World → Prop) (s : Nat → Value) (w : World) (h : s5_p9 K B1 (s 3) (s 4) (s 6) (s 15) (s 16) (s 17) (s 22) (s 23) w) : Tr (s5_p9_den K (fun s w => B1 [s 3, s 4, s 15, s 16, s 17] w) s w) :=
  tr_cond (v := ev s (.tmp 23)) (a := (fun s w => s5_p4 K B1 (s 3) (s 4) (s 6) (s 15) (s 16) (s 17) w) s w) (a' := (s5_p4_den K (fun s w => B1 [s 3, s 4, s 15, s 16, s 17] w)) s w) (b := (fun s w => s5_p8 K B1 (s 3) (s 4) (s 6) (s 15) (s 16) (s 17) (s 22) w) s w) (b' := (s5_p8_den K (fun s w => B1 [s 3, s 4, s 15, s 16, s 17] w)) s w) (p := s5_p9 K B1 (s 3) (s 4) (s 6) (s 15) (s 16) (s 17) (s 22) (s 23) w) (q := s5_p9_den K (fun s w => B1 [s 3, s 4, s 15, s 16, s 17] w) s w) ((fun s w h => s5_p4_ok K B1 s w @h) s w) ((fun s w h => s5_p8_ok K B1 s w @h) s w) (by kernel_rfl) (by kernel_rfl) @h
def s5_p10 (K : Value → World → Prop) (B1 : List Value → World → Prop) (t3 t4 t6 t15 t16 t17 t22 : Value) (w : World) : Prop :=
  boI .eql t22 (.int .i64 0) (fun t24 w =>
  ifb t24
  (s5_p9 K B1 t3 t4 t6 t15 t16 t17 t22 t24 w)
  (boI .eql t22 (.int .i64 4) (fun t25 w =>
  s5_p9 K B1 t3 t4 t6 t15 t16 t17 t22 t25 w) w)) w
def s5_p10_den (K : Value → World → Prop) (M1 : (Nat → Value) → World → Prop) : (Nat → Value) → World → Prop := denL Tryz.prog [(cd (Tryz.f5.body.getD .skip) [1, 1, 1, 1, 0, 1, 0, 0, 1, 1, 0, 0, 1, 0, 1, 0, 0, 0]), (cd (Tryz.f5.body.getD .skip) [1, 1, 1, 1, 0, 1, 0, 0, 1, 1, 0, 0, 1, 0, 1, 0, 0, 1])] (s5_p9_den K M1) (fun i => (bif Nat.beq i 2 then (s5_p3_den K M1) else (bif Nat.beq i 1 then (s5_p2_den K M1) else (bif Nat.beq i 0 then (s5_p1_den K) else (fun _ _ => False))))) (s5_R K)
theorem s5_p10_ok (K : Value → World → Prop) (B1 : List Value → World → Prop) (s : Nat → Value) (w : World) (h : s5_p10 K B1 (s 3) (s 4) (s 6) (s 15) (s 16) (s 17) (s 22) w) : Tr (s5_p10_den K (fun s w => B1 [s 3, s 4, s 15, s 16, s 17] w) s w) :=
  tr_simple (P := Tryz.prog) (codes := [(cd (Tryz.f5.body.getD .skip) [1, 1, 1, 1, 0, 1, 0, 0, 1, 1, 0, 0, 1, 0, 1, 0, 0, 0]), (cd (Tryz.f5.body.getD .skip) [1, 1, 1, 1, 0, 1, 0, 0, 1, 1, 0, 0, 1, 0, 1, 0, 0, 1])]) (N := (fun s w => s5_p9 K B1 (s 3) (s 4) (s 6) (s 15) (s 16) (s 17) (s 22) (s 23) w)) (N' := (s5_p9_den K (fun s w => B1 [s 3, s 4, s 15, s 16, s 17] w))) (X := (fun i => (bif Nat.beq i 2 then (fun s w => s5_p3 K B1 (s 3) (s 4) (s 15) (s 16) (s 17) w) else (bif Nat.beq i 1 then (fun s w => s5_p2 K B1 (s 3) (s 4) (s 15) (s 16) (s 17) w) else (bif Nat.beq i 0 then (fun s w => s5_p1 K w) else (fun _ _ => False)))))) (X' := (fun i => (bif Nat.beq i 2 then (s5_p3_den K (fun s w => B1 [s 3, s 4, s 15, s 16, s 17] w)) else (bif Nat.beq i 1 then (s5_p2_den K (fun s w => B1 [s 3, s 4, s 15, s 16, s 17] w)) else (bif Nat.beq i 0 then (s5_p1_den K) else (fun _ _ => False)))))) (R := s5_R K) (s := s) (w := w) (p := s5_p10 K B1 (s 3) (s 4) (s 6) (s 15) (s 16) (s 17) (s 22) w) (q := s5_p10_den K (fun s w => B1 [s 3, s 4, s 15, s 16, s 17] w) s w) (fun s w h => s5_p9_ok K B1 s w @h) (fun i => (tr_bif (fun s w h => s5_p3_ok K B1 s w @h) (tr_bif (fun s w h => s5_p2_ok K B1 s w @h) (tr_bif (fun s w h => s5_p1_ok K s w @h) tr_id)))) (by kernel_rfl) (by kernel_rfl) @h
def s5_p11 (K : Value → World → Prop) (B1 : List Value → World → Prop) (t3 t4 t15 t16 t17 : Value) (w : World) : Prop :=
  ixs 4 t15 t17 (fun t19 w =>
  ldn 4 t19 (fun t20 w =>
  nw 39 #[(.int .i64 0), (.slice none 0 0), (.int .i64 0), (.int .i64 0)] (fun t6 w =>
  stn 4 t6 t20 (fun w =>
  fd 0 t6 (fun t21 w =>
  ld1 t21 (fun t22 w =>
  s5_p10 K B1 t3 t4 t6 t15 t16 t17 t22 w) w) w) w) w) w) w
def s5_p11_den (K : Value → World → Prop) (M1 : (Nat → Value) → World → Prop) : (Nat → Value) → World → Prop := denL Tryz.prog [(cd (Tryz.f5.body.getD .skip) [1, 1, 1, 1, 0, 1, 0, 0, 1, 1, 0, 0, 0]), (cd (Tryz.f5.body.getD .skip) [1, 1, 1, 1, 0, 1, 0, 0, 1, 1, 0, 0, 1, 0, 0])] (s5_p10_den K M1) (fun i => (bif Nat.beq i 1 then (s5_p2_den K M1) else (bif Nat.beq i 0 then (s5_p1_den K) else (fun _ _ => False)))) (s5_R K)
theorem s5_p11_ok (K : Value → World → Prop) (B1 : List Value → World → Prop) (s : Nat → Value) (w : World) (h : s5_p11 K B1 (s 3) (s 4) (s 15) (s 16) (s 17) w) : Tr (s5_p11_den K (fun s w => B1 [s 3, s 4, s 15, s 16, s 17] w) s w) :=
  tr_simple (P := Tryz.prog) (codes := [(cd (Tryz.f5.body.getD .skip) [1, 1, 1, 1, 0, 1, 0, 0, 1, 1, 0, 0, 0]), (cd (Tryz.f5.body.getD .skip) [1, 1, 1, 1, 0, 1, 0, 0, 1, 1, 0, 0, 1, 0, 0])]) (N := (fun s w => s5_p10 K B1 (s 3) (s 4) (s 6) (s 15) (s 16) (s 17) (s 22) w)) (N' := (s5_p10_den K (fun s w => B1 [s 3, s 4, s 15, s 16, s 17] w))) (X := (fun i => (bif Nat.beq i 1 then (fun s w => s5_p2 K B1 (s 3) (s 4) (s 15) (s 16) (s 17) w) else (bif Nat.beq i 0 then (fun s w => s5_p1 K w) else (fun _ _ => False))))) (X' := (fun i => (bif Nat.beq i 1 then (s5_p2_den K (fun s w => B1 [s 3, s 4, s 15, s 16, s 17] w)) else (bif Nat.beq i 0 then (s5_p1_den K) else (fun _ _ => False))))) (R := s5_R K) (s := s) (w := w) (p := s5_p11 K B1 (s 3) (s 4) (s 15) (s 16) (s 17) w) (q := s5_p11_den K (fun s w => B1 [s 3, s 4, s 15, s 16, s 17] w) s w) (fun s w h => s5_p10_ok K B1 s w @h) (fun i => (tr_bif (fun s w h => s5_p2_ok K B1 s w @h) (tr_bif (fun s w h => s5_p1_ok K s w @h) tr_id))) (by kernel_rfl) (by kernel_rfl) @h
def s5_p12 (K : Value → World → Prop) (B1 : List Value → World → Prop) (t3 t4 t15 t16 t17 : Value) (w : World) : Prop :=
  boI .lss t17 t16 (fun t18 w =>
  ifb t18
  (s5_p11 K B1 t3 t4 t15 t16 t17 w)
  (s5_p1 K w)) w
def s5_p12_den (K : Value → World → Prop) (M1 : (Nat → Value) → World → Prop) : (Nat → Value) → World → Prop := denL Tryz.prog [(cd (Tryz.f5.body.getD .skip) [1, 1, 1, 1, 0, 1, 0, 0, 0]), (cd (Tryz.f5.body.getD .skip) [1, 1, 1, 1, 0, 1, 0, 0, 1, 0])] (s5_p11_den K M1) (fun i => (bif Nat.beq i 0 then (s5_p1_den K) else (fun _ _ => False))) (s5_R K)
theorem s5_p12_ok (K : Value → World → Prop) (B1 : List Value → World → Prop) (s : Nat → Value) (w : World) (h : s5_p12 K B1 (s 3) (s 4) (s 15) (s 16) (s 17) w) : Tr (s5_p12_den K (fun s w => B1 [s 3, s 4, s 15, s 16, s 17] w) s w) :=
  tr_simple (P := Tryz.prog) (codes := [(cd (Tryz.f5.body.getD .skip) [1, 1, 1, 1, 0, 1, 0, 0, 0]), (cd (Tryz.f5.body.getD .skip) [1, 1, 1, 1, 0, 1, 0, 0, 1, 0])]) (N := (fun s w => s5_p11 K B1 (s 3) (s 4) (s 15) (s 16) (s 17) w)) (N' := (s5_p11_den K (fun s w => B1 [s 3, s 4, s 15, s 16, s 17] w))) (X := (fun i => (bif Nat.beq i 0 then (fun s w => s5_p1 K w) else (fun _ _ => False)))) (X' := (fun i => (bif Nat.beq i 0 then (s5_p1_den K) else (fun _ _ => False)))) (R := s5_R K) (s := s) (w := w) (p := s5_p12 K B1 (s 3) (s 4) (s 15) (s 16) (s 17) w) (q := s5_p12_den K (fun s w => B1 [s 3, s 4, s 15, s 16, s 17] w) s w) (fun s w h => s5_p11_ok K B1 s w @h) (fun i => (tr_bif (fun s w h => s5_p1_ok K s w @h) tr_id)) (by kernel_rfl) (by kernel_rfl) @h
def s5_p13_F (K : Value → World → Prop) (B1 : List Value → World → Prop) (l : List Value) (w : World) : Prop :=
  match l with
  | [t3, t4, t15, t16, t17] => s5_p12 K B1 t3 t4 t15 t16 t17 w
  | _ => False
theorem s5_p13_Fe {K : Value → World → Prop} {B1 : List Value → World → Prop} {t3 t4 t15 t16 t17 : Value} {w : World} : s5_p13_F K B1 [t3, t4, t15, t16, t17] w = s5_p12 K B1 t3 t4 t15 t16 t17 w := by kernel_rfl
def s5_p13 (K : Value → World → Prop) (t3 t4 t15 t16 t17 : Value) (w : World) : Prop :=
  LoopL (s5_p13_F K) [t3, t4, t15, t16, t17] w
def s5_p13_den (K : Value → World → Prop) : (Nat → Value) → World → Prop := fun s w => LoopP (fun M1 s w => s5_p12_den K M1 s w) s w
theorem s5_p13_ok (K : Value → World → Prop) (s : Nat → Value) (w : World) (h : s5_p13 K (s 3) (s 4) (s 15) (s 16) (s 17) w) : Tr (s5_p13_den K s w) :=
  tr_loop (G := fun N' s w => s5_p12_den K N' s w) (F := s5_p13_F K) (sel := fun s => [s 3, s 4, s 15, s 16, s 17]) (s := s) (w := w) (p := s5_p13 K (s 3) (s 4) (s 15) (s 16) (s 17) w) (q := s5_p13_den K s w) (fun B s w h => s5_p12_ok K B s w @h) (by kernel_rfl) (by kernel_rfl) @h
def s5_p14 (K : Value → World → Prop) (t0 : Value) (w : World) : Prop :=
  cl Tryz.prog 17 #[t0] (fun t8 w =>
  un .not t8 (fun t9 w =>
  ifb t9
  (K (.bool true) w)
  (cl Tryz.prog 19 #[] (fun t10 w =>
  cl Tryz.prog 18 #[t10] (fun t11 w =>
  cl Tryz.prog 31 #[(.func (.func 24) #[t11] #[])] (fun t14 w =>
  lnS t0 (fun t16 w =>
  s5_p13 K t11 t14 t0 t16 (.int .i64 0) w) w) w) w) w)) w) w
def s5_p14_den (K : Value → World → Prop) : (Nat → Value) → World → Prop := denL Tryz.prog [(cd (Tryz.f5.body.getD .skip) [0]), (cd (Tryz.f5.body.getD .skip) [1, 0, 0]), (cd (Tryz.f5.body.getD .skip) [1, 0, 1]), (cd (Tryz.f5.body.getD .skip) [1, 1, 0]), (cd (Tryz.f5.body.getD .skip) [1, 1, 1, 0]), (cd (Tryz.f5.body.getD .skip) [1, 1, 1, 1, 0, 0])] (s5_p13_den K) (fun i => (fun _ _ => False)) (s5_R K)
theorem s5_p14_ok (K : Value → World → Prop) (s : Nat → Value) (w : World) (h : s5_p14 K (s 0) w) : Tr (s5_p14_den K s w) :=
  tr_simple (P := Tryz.prog) (codes := [(cd (Tryz.f5.body.getD .skip) [0]), (cd (Tryz.f5.body.getD .skip) [1, 0, 0]), (cd (Tryz.f5.body.getD .skip) [1, 0, 1]), (cd (Tryz.f5.body.getD .skip) [1, 1, 0]), (cd (Tryz.f5.body.getD .skip) [1, 1, 1, 0]), (cd (Tryz.f5.body.getD .skip) [1, 1, 1, 1, 0, 0])]) (N := (fun s w => s5_p13 K (s 3) (s 4) (s 15) (s 16) (s 17) w)) (N' := (s5_p13_den K)) (X := (fun i => (fun _ _ => False))) (X' := (fun i => (fun _ _ => False))) (R := s5_R K) (s := s) (w := w) (p := s5_p14 K (s 0) w) (q := s5_p14_den K s w) (fun s w h => s5_p13_ok K s w @h) (fun i => tr_id) (by kernel_rfl) (by kernel_rfl) @h
/-- the call, from the text -/
theorem c5 (t0 : Value) {K : Value → World → Prop} {w : World} (h : s5_p14 K t0 w) : cl Tryz.prog 5 #[t0] K w :=
  calls_of_tr (c := (Tryz.f5.body.getD .skip)) (fn := Tryz.f5) (q := s5_p14_den K (st0 #[t0]) w) Tryz.func5 (by kernel_rfl) (by kernel_rfl) (Nat.le_of_ble_eq_true (by kernel_rfl)) (by kernel_rfl) (by kernel_rfl) (s5_p14_ok K (st0 #[t0]) w @h)

end Go.Proofs.Qxb6500896aGreat
