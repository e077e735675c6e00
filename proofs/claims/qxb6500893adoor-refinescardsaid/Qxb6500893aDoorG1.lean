import Derived.Test.Qxb6500893aDoorProg
import Derived.Test.Qxb6500893aDoorShMix3
namespace Go.Proofs.Qxb6500893aDoor
open Go.Sh Go.RowKit
set_option linter.unusedVariables false
set_option maxRecDepth 100000

/-! ### function 4 : e2e.poollaw.FollowsTheSet -/
def s4_R (K : Value → World → Prop) (s : Nat → Value) (w : World) : Prop := retv Tryd.prog s Tryd.f4.results.toList (fun vs => K (pack vs) w) w
def s4_p1 (K : Value → World → Prop) (w : World) : Prop :=
  K (.bool true) w
def s4_p1_den (K : Value → World → Prop) : (Nat → Value) → World → Prop := denL Tryd.prog [(cd (Tryd.f4.body.getD .skip) [1, 1, 1, 1, 0]), (cd (Tryd.f4.body.getD .skip) [1, 1, 1, 1, 1])] (fun _ _ => False) (fun i => (fun _ _ => False)) (s4_R K)
theorem s4_p1_ok (K : Value → World → Prop) (s : Nat → Value) (w : World) (h : s4_p1 K w) : Tr (s4_p1_den K s w) :=
  tr_simple (P := Tryd.prog) (codes := [(cd (Tryd.f4.body.getD .skip) [1, 1, 1, 1, 0]), (cd (Tryd.f4.body.getD .skip) [1, 1, 1, 1, 1])]) (N := (fun _ _ => False)) (N' := (fun _ _ => False)) (X := (fun i => (fun _ _ => False))) (X' := (fun i => (fun _ _ => False))) (R := s4_R K) (s := s) (w := w) (p := s4_p1 K w) (q := s4_p1_den K s w) tr_id (fun i => tr_id) (by kernel_rfl) (by kernel_rfl) @h
def s4_p2 (K : Value → World → Prop) (B1 : List Value → World → Prop) (t3 t19 t20 t21 : Value) (w : World) : Prop :=
  boI .add t21 (.int .i64 1) (fun t222 w =>
  B1 [t3, t19, t20, t222] w) w
def s4_p2_den (K : Value → World → Prop) (M1 : (Nat → Value) → World → Prop) : (Nat → Value) → World → Prop := denL Tryd.prog [(cd (Tryd.f4.body.getD .skip) [1, 1, 1, 0, 1, 0, 0, 1, 1, 1])] M1 (fun i => (bif Nat.beq i 0 then (s4_p1_den K) else (fun _ _ => False))) (s4_R K)
theorem s4_p2_ok (K : Value → World → Prop) (B1 : List Value → World → Prop) (s : Nat → Value) (w : World) (h : s4_p2 K B1 (s 3) (s 19) (s 20) (s 21) w) : Tr (s4_p2_den K (fun s w => B1 [s 3, s 19, s 20, s 21] w) s w) :=
  tr_simple (P := Tryd.prog) (codes := [(cd (Tryd.f4.body.getD .skip) [1, 1, 1, 0, 1, 0, 0, 1, 1, 1])]) (N := (fun s w => B1 [s 3, s 19, s 20, s 21] w)) (N' := (fun s w => B1 [s 3, s 19, s 20, s 21] w)) (X := (fun i => (bif Nat.beq i 0 then (fun s w => s4_p1 K w) else (fun _ _ => False)))) (X' := (fun i => (bif Nat.beq i 0 then (s4_p1_den K) else (fun _ _ => False)))) (R := s4_R K) (s := s) (w := w) (p := s4_p2 K B1 (s 3) (s 19) (s 20) (s 21) w) (q := s4_p2_den K (fun s w => B1 [s 3, s 19, s 20, s 21] w) s w) tr_id (fun i => (tr_bif (fun s w h => s4_p1_ok K s w @h) tr_id)) (by kernel_rfl) (by kernel_rfl) @h
def s4_p3 (K : Value → World → Prop) (B1 : List Value → World → Prop) (t3 t6 t7 t12 t19 t20 t21 : Value) (w : World) : Prop :=
  un .not t7 (fun t191 w =>
  gd t191 true (fd 0 t6) (fun t193 w =>
  gd t191 true (ld1 t193) (fun t194 w =>
  gd t191 true (boI .neq t194 (.int .u8 0)) (fun t195 w =>
  pk t191 t195 (.bool false) (fun t196 w =>
  gd t196 true (fd 0 t6) (fun t198 w =>
  gd t196 true (ld1 t198) (fun t199 w =>
  gd t196 true (boI .neq t199 (.int .u8 1)) (fun t200 w =>
  pk t196 t200 (.bool false) (fun t201 w =>
  gd t201 true (fd 0 t6) (fun t203 w =>
  gd t201 true (ld1 t203) (fun t204 w =>
  gd t201 true (boI .neq t204 (.int .u8 5)) (fun t205 w =>
  pk t201 t205 (.bool false) (fun t206 w =>
  gd t206 true (fd 0 t6) (fun t208 w =>
  gd t206 true (ld1 t208) (fun t209 w =>
  gd t206 true (boI .neq t209 (.int .u8 7)) (fun t210 w =>
  pk t206 t210 (.bool false) (fun t211 w =>
  gd t211 true (fd 0 t12) (fun t213 w =>
  gd t211 true (ld1 t213) (fun t214 w =>
  gd t211 true (boI .eql t214 (.int .i64 0)) (fun t215 w =>
  pk t211 t215 (.bool false) (fun t216 w =>
  ifb t216
  (K (.bool false) w)
  (ldn 6 t6 (fun t218 w =>
  fd 2 t12 (fun t219 w =>
  ld1 t219 (fun t220 w =>
  cl Tryd.prog 15 #[t3, t218, t220] (fun t221 w =>
  s4_p2 K B1 t3 t19 t20 t21 w) w) w) w) w)) w) w) w) w) w) w) w) w) w) w) w) w) w) w) w) w) w) w) w) w) w
def s4_p3_den (K : Value → World → Prop) (M1 : (Nat → Value) → World → Prop) : (Nat → Value) → World → Prop := denL Tryd.prog [(cd (Tryd.f4.body.getD .skip) [1, 1, 1, 0, 1, 0, 0, 1, 1, 0, 0, 1, 1, 1, 1, 1, 1, 1, 1, 1, 0, 0]), (cd (Tryd.f4.body.getD .skip) [1, 1, 1, 0, 1, 0, 0, 1, 1, 0, 0, 1, 1, 1, 1, 1, 1, 1, 1, 1, 0, 1]), (cd (Tryd.f4.body.getD .skip) [1, 1, 1, 0, 1, 0, 0, 1, 1, 0, 0, 1, 1, 1, 1, 1, 1, 1, 1, 1, 1])] (s4_p2_den K M1) (fun i => (bif Nat.beq i 1 then (s4_p2_den K M1) else (bif Nat.beq i 0 then (s4_p1_den K) else (fun _ _ => False)))) (s4_R K)
theorem s4_p3_ok (K : Value → World → Prop) (B1 : List Value → World → Prop) (s : Nat → Value) (w : World) (h : s4_p3 K B1 (s 3) (s 6) (s 7) (s 12) (s 19) (s 20) (s 21) w) : Tr (s4_p3_den K (fun s w => B1 [s 3, s 19, s 20, s 21] w) s w) :=
  tr_simple (P := Tryd.prog) (codes := [(cd (Tryd.f4.body.getD .skip) [1, 1, 1, 0, 1, 0, 0, 1, 1, 0, 0, 1, 1, 1, 1, 1, 1, 1, 1, 1, 0, 0]), (cd (Tryd.f4.body.getD .skip) [1, 1, 1, 0, 1, 0, 0, 1, 1, 0, 0, 1, 1, 1, 1, 1, 1, 1, 1, 1, 0, 1]), (cd (Tryd.f4.body.getD .skip) [1, 1, 1, 0, 1, 0, 0, 1, 1, 0, 0, 1, 1, 1, 1, 1, 1, 1, 1, 1, 1])]) (N := (fun s w => s4_p2 K B1 (s 3) (s 19) (s 20) (s 21) w)) (N' := (s4_p2_den K (fun s w => B1 [s 3, s 19, s 20, s 21] w))) (X := (fun i => (bif Nat.beq i 1 then (fun s w => s4_p2 K B1 (s 3) (s 19) (s 20) (s 21) w) else (bif Nat.beq i 0 then (fun s w => s4_p1 K w) else (fun _ _ => False))))) (X' := (fun i => (bif Nat.beq i 1 then (s4_p2_den K (fun s w => B1 [s 3, s 19, s 20, s 21] w)) else (bif Nat.beq i 0 then (s4_p1_den K) else (fun _ _ => False))))) (R := s4_R K) (s := s) (w := w) (p := s4_p3 K B1 (s 3) (s 6) (s 7) (s 12) (s 19) (s 20) (s 21) w) (q := s4_p3_den K (fun s w => B1 [s 3, s 19, s 20, s 21] w) s w) (fun s w h => s4_p2_ok K B1 s w @h) (fun i => (tr_bif (fun s w h => s4_p2_ok K B1 s w @h) (tr_bif (fun s w h => s4_p1_ok K s w @h) tr_id))) (by kernel_rfl) (by kernel_rfl) @h
def s4_p4 (K : Value → World → Prop) (B1 : List Value → World → Prop) (t3 t6 t7 t12 t19 t20 t21 t181 : Value) (w : World) : Prop :=
  ifb t181
  (K (.bool false) w)
  (s4_p3 K B1 t3 t6 t7 t12 t19 t20 t21 w)
def s4_p4_den (K : Value → World → Prop) (M1 : (Nat → Value) → World → Prop) : (Nat → Value) → World → Prop := denL Tryd.prog [(cd (Tryd.f4.body.getD .skip) [1, 1, 1, 0, 1, 0, 0, 1, 1, 0, 0, 1, 1, 1, 1, 1, 1, 1, 1, 0, 1, 0, 1, 0, 1, 1, 0, 1, 1, 1])] (s4_p3_den K M1) (fun i => (bif Nat.beq i 2 then (s4_p3_den K M1) else (bif Nat.beq i 1 then (s4_p2_den K M1) else (bif Nat.beq i 0 then (s4_p1_den K) else (fun _ _ => False))))) (s4_R K)
theorem s4_p4_ok (K : Value → World → Prop) (B1 : List Value → World → Prop) (s : Nat → Value) (w : World) (h : s4_p4 K B1 (s 3) (s 6) (s 7) (s 12) (s 19) (s 20) (s 21) (s 181) w) : Tr (s4_p4_den K (fun s w => B1 [s 3, s 19, s 20, s 21] w) s w) :=
  tr_simple (P := Tryd.prog) (codes := [(cd (Tryd.f4.body.getD .skip) [1, 1, 1, 0, 1, 0, 0, 1, 1, 0, 0, 1, 1, 1, 1, 1, 1, 1, 1, 0, 1, 0, 1, 0, 1, 1, 0, 1, 1, 1])]) (N := (fun s w => s4_p3 K B1 (s 3) (s 6) (s 7) (s 12) (s 19) (s 20) (s 21) w)) (N' := (s4_p3_den K (fun s w => B1 [s 3, s 19, s 20, s 21] w))) (X := (fun i => (bif Nat.beq i 2 then (fun s w => s4_p3 K B1 (s 3) (s 6) (s 7) (s 12) (s 19) (s 20) (s 21) w) else (bif Nat.beq i 1 then (fun s w => s4_p2 K B1 (s 3) (s 19) (s 20) (s 21) w) else (bif Nat.beq i 0 then (fun s w => s4_p1 K w) else (fun _ _ => False)))))) (X' := (fun i => (bif Nat.beq i 2 then (s4_p3_den K (fun s w => B1 [s 3, s 19, s 20, s 21] w)) else (bif Nat.beq i 1 then (s4_p2_den K (fun s w => B1 [s 3, s 19, s 20, s 21] w)) else (bif Nat.beq i 0 then (s4_p1_den K) else (fun _ _ => False)))))) (R := s4_R K) (s := s) (w := w) (p := s4_p4 K B1 (s 3) (s 6) (s 7) (s 12) (s 19) (s 20) (s 21) (s 181) w) (q := s4_p4_den K (fun s w => B1 [s 3, s 19, s 20, s 21] w) s w) (fun s w h => s4_p3_ok K B1 s w @h) (fun i => (tr_bif (fun s w h => s4_p3_ok K B1 s w @h) (tr_bif (fun s w h => s4_p2_ok K B1 s w @h) (tr_bif (fun s w h => s4_p1_ok K s w @h) tr_id)))) (by kernel_rfl) (by kernel_rfl) @h
def s4_p5_d (K : Value → World → Prop) (B1 : List Value → World → Prop) (t3 t6 t7 t12 t13 t14 t19 t20 t21 : Value) (w0 w : World) : Prop :=
  boI .lss t14 (.int .i64 0) (fun t146 _ =>
  gd t146 false (fun K w => K t14 w) (fun t148 _ =>
  gd t146 false (fun K w => K t13 w) (fun t149 _ =>
  gd t146 false (nck t149) (fun t150 _ =>
  gd t146 false (fd 0 t150) (fun t151 _ =>
  gd t146 false (ld1 t151) (fun t152 _ =>
  gd t146 false (boI .rem t148 t152) (fun t153 _ =>
  gd t146 false (boI .neq t153 (.int .i64 0)) (fun t154 _ =>
  pk t146 (.bool true) t154 (fun t155 _ =>
  gd t155 false (fun K w => K t14 w) (fun t157 _ =>
  gd t155 false (fun K w => K t13 w) (fun t158 _ =>
  gd t155 false (nck t158) (fun t159 _ =>
  gd t155 false (fd 0 t159) (fun t160 _ =>
  gd t155 false (ld1 t160) (fun t161 _ =>
  gd t155 false (boI .quo t157 t161) (fun t162 _ =>
  gd t155 false (fun K w => K t13 w) (fun t163 _ =>
  gd t155 false (nck t163) (fun t164 _ =>
  gd t155 false (fd 1 t164) (fun t165 _ =>
  gd t155 false (ld1 t165) (fun t166 _ =>
  gd t155 false (boI .geq t162 t166) (fun t167 _ =>
  pk t155 (.bool true) t167 (fun t168 _ =>
  gd t168 false (fun K w => K t13 w) (fun t170 _ =>
  gd t168 false (nck t170) (fun t171 _ =>
  gd t168 false (fd 2 t171) (fun t172 _ =>
  gd t168 false (ld1 t172) (fun t173 _ =>
  gd t168 false (fun K w => K t14 w) (fun t174 _ =>
  gd t168 false (fun K w => K t13 w) (fun t175 _ =>
  gd t168 false (nck t175) (fun t176 _ =>
  gd t168 false (fd 0 t176) (fun t177 _ =>
  gd t168 false (ld1 t177) (fun t178 _ =>
  gd t168 false (boI .quo t174 t178) (fun t179 _ =>
  qv (gd t168 false (rs Tryd.prog (Instr.lookup 58 t173 t179 false))) w0 (fun t180 =>
  pk t168 (.bool true) t180 (fun t181 _ =>
  s4_p4 K B1 t3 t6 t7 t12 t19 t20 t21 t181 w) w0)) w0) w0) w0) w0) w0) w0) w0) w0) w0) w0) w0) w0) w0) w0) w0) w0) w0) w0) w0) w0) w0) w0) w0) w0) w0) w0) w0) w0) w0) w0) w0
def s4_p5 (K : Value → World → Prop) (B1 : List Value → World → Prop) (t3 t6 t7 t12 t13 t14 t19 t20 t21 : Value) (w : World) : Prop := s4_p5_d K B1 t3 t6 t7 t12 t13 t14 t19 t20 t21 (drw w) (drw w)
def s4_p5_den (K : Value → World → Prop) (M1 : (Nat → Value) → World → Prop) : (Nat → Value) → World → Prop := denL Tryd.prog [(cd (Tryd.f4.body.getD .skip) [1, 1, 1, 0, 1, 0, 0, 1, 1, 0, 0, 1, 1, 1, 1, 1, 1, 1, 1, 0, 1, 0, 1, 0, 1, 1, 0, 1, 1, 0])] (s4_p4_den K M1) (fun i => (bif Nat.beq i 2 then (s4_p3_den K M1) else (bif Nat.beq i 1 then (s4_p2_den K M1) else (bif Nat.beq i 0 then (s4_p1_den K) else (fun _ _ => False))))) (s4_R K)
theorem s4_p5_ok (K : Value → World → Prop) (B1 : List Value → World → Prop) (s : Nat → Value) (w : World) (h : s4_p5 K B1 (s 3) (s 6) (s 7) (s 12) (s 13) (s 14) (s 19) (s 20) (s 21) w) : Tr (s4_p5_den K (fun s w => B1 [s 3, s 19, s 20, s 21] w) s w) :=
  tr_draw (P := Tryd.prog) (ops := (ro (cd (Tryd.f4.body.getD .skip) [1, 1, 1, 0, 1, 0, 0, 1, 1, 0, 0, 1, 1, 1, 1, 1, 1, 1, 1, 0, 1, 0, 1, 0, 1, 1, 0, 1, 1, 0]))) (ms := [0, 1, 3, 7, 7, 23, 55, 119, 255, 511, 1023, 2047, 4095, 4095, 12287, 28671, 61439, 131071, 4095, 266239, 790527, 1839103, 4194303, 8388607, 16777215, 33554431, 67108863, 134217727, 268435455, 33554431, 33554431, 1107296255, 3254779903, 7549747199, 16676552703, 34359738367, 68719476735]) (cs := [0, 1, 2, 3, 4, 5, 6, 7, 8, 9, 10, 11, 12, 13, 14, 15, 16, 17, 18, 19, 20, 21, 22, 23, 24, 25, 26, 27, 28, 29, 30, 31, 32, 33, 34, 35, 36]) (N := (fun s w => s4_p4 K B1 (s 3) (s 6) (s 7) (s 12) (s 19) (s 20) (s 21) (s 181) w)) (N' := (s4_p4_den K (fun s w => B1 [s 3, s 19, s 20, s 21] w))) (s := s) (w := w) (p := s4_p5 K B1 (s 3) (s 6) (s 7) (s 12) (s 13) (s 14) (s 19) (s 20) (s 21) w) (q := s4_p5_den K (fun s w => B1 [s 3, s 19, s 20, s 21] w) s w) (by kernel_rfl) (by kernel_rfl) (fun s w h => s4_p4_ok K B1 s w @h) (by kernel_rfl) (by kernel_rfl) @h
def s4_p6 (K : Value → World → Prop) (B1 : List Value → World → Prop) (t3 t6 t7 t12 t13 t19 t20 t21 : Value) (w : World) : Prop :=
  fd 1 t6 (fun t140 w =>
  ld1 t140 (fun t141 w =>
  fd 2 t12 (fun t142 w =>
  ld1 t142 (fun t143 w =>
  cl Tryd.prog 19 #[t3, t141, t143] (fun t144 w =>
  s4_p5 K B1 t3 t6 t7 t12 t13 t144 t19 t20 t21 w) w) w) w) w) w
def s4_p6_den (K : Value → World → Prop) (M1 : (Nat → Value) → World → Prop) : (Nat → Value) → World → Prop := denL Tryd.prog [(cd (Tryd.f4.body.getD .skip) [1, 1, 1, 0, 1, 0, 0, 1, 1, 0, 0, 1, 1, 1, 1, 1, 1, 1, 1, 0, 1, 0, 1, 0, 1, 1, 0, 1, 0])] (s4_p5_den K M1) (fun i => (bif Nat.beq i 2 then (s4_p3_den K M1) else (bif Nat.beq i 1 then (s4_p2_den K M1) else (bif Nat.beq i 0 then (s4_p1_den K) else (fun _ _ => False))))) (s4_R K)
theorem s4_p6_ok (K : Value → World → Prop) (B1 : List Value → World → Prop) (s : Nat → Value) (w : World) (h : s4_p6 K B1 (s 3) (s 6) (s 7) (s 12) (s 13) (s 19) (s 20) (s 21) w) : Tr (s4_p6_den K (fun s w => B1 [s 3, s 19, s 20, s 21] w) s w) :=
  tr_simple (P := Tryd.prog) (codes := [(cd (Tryd.f4.body.getD .skip) [1, 1, 1, 0, 1, 0, 0, 1, 1, 0, 0, 1, 1, 1, 1, 1, 1, 1, 1, 0, 1, 0, 1, 0, 1, 1, 0, 1, 0])]) (N := (fun s w => s4_p5 K B1 (s 3) (s 6) (s 7) (s 12) (s 13) (s 14) (s 19) (s 20) (s 21) w)) (N' := (s4_p5_den K (fun s w => B1 [s 3, s 19, s 20, s 21] w))) (X := (fun i => (bif Nat.beq i 2 then (fun s w => s4_p3 K B1 (s 3) (s 6) (s 7) (s 12) (s 19) (s 20) (s 21) w) else (bif Nat.beq i 1 then (fun s w => s4_p2 K B1 (s 3) (s 19) (s 20) (s 21) w) else (bif Nat.beq i 0 then (fun s w => s4_p1 K w) else (fun _ _ => False)))))) (X' := (fun i => (bif Nat.beq i 2 then (s4_p3_den K (fun s w => B1 [s 3, s 19, s 20, s 21] w)) else (bif Nat.beq i 1 then (s4_p2_den K (fun s w => B1 [s 3, s 19, s 20, s 21] w)) else (bif Nat.beq i 0 then (s4_p1_den K) else (fun _ _ => False)))))) (R := s4_R K) (s := s) (w := w) (p := s4_p6 K B1 (s 3) (s 6) (s 7) (s 12) (s 13) (s 19) (s 20) (s 21) w) (q := s4_p6_den K (fun s w => B1 [s 3, s 19, s 20, s 21] w) s w) (fun s w h => s4_p5_ok K B1 s w @h) (fun i => (tr_bif (fun s w h => s4_p3_ok K B1 s w @h) (tr_bif (fun s w h => s4_p2_ok K B1 s w @h) (tr_bif (fun s w h => s4_p1_ok K s w @h) tr_id)))) (by kernel_rfl) (by kernel_rfl) @h
def s4_p7_d (K : Value → World → Prop) (B1 : List Value → World → Prop) (t3 t6 t7 t12 t19 t20 t21 : Value) (w0 w : World) : Prop :=
  nck t3 (fun t129 _ =>
  fd 2 t129 (fun t130 _ =>
  ld1 t130 (fun t131 _ =>
  nck t131 (fun t132 _ =>
  fd 1 t132 (fun t133 _ =>
  ld1 t133 (fun t134 _ =>
  fd 1 t6 (fun t135 _ =>
  ld1 t135 (fun t136 _ =>
  ixs 1 t134 t136 (fun t137 _ =>
  ld1 t137 (fun t138 _ =>
  s4_p6 K B1 t3 t6 t7 t12 t138 t19 t20 t21 w) w0) w0) w0) w0) w0) w0) w0) w0) w0) w0
def s4_p7 (K : Value → World → Prop) (B1 : List Value → World → Prop) (t3 t6 t7 t12 t19 t20 t21 : Value) (w : World) : Prop := s4_p7_d K B1 t3 t6 t7 t12 t19 t20 t21 (drw w) (drw w)
def s4_p7_den (K : Value → World → Prop) (M1 : (Nat → Value) → World → Prop) : (Nat → Value) → World → Prop := denL Tryd.prog [(cd (Tryd.f4.body.getD .skip) [1, 1, 1, 0, 1, 0, 0, 1, 1, 0, 0, 1, 1, 1, 1, 1, 1, 1, 1, 0, 1, 0, 1, 0, 1, 1, 0, 0])] (s4_p6_den K M1) (fun i => (bif Nat.beq i 2 then (s4_p3_den K M1) else (bif Nat.beq i 1 then (s4_p2_den K M1) else (bif Nat.beq i 0 then (s4_p1_den K) else (fun _ _ => False))))) (s4_R K)
theorem s4_p7_ok (K : Value → World → Prop) (B1 : List Value → World → Prop) (s : Nat → Value) (w : World) (h : s4_p7 K B1 (s 3) (s 6) (s 7) (s 12) (s 19) (s 20) (s 21) w) : Tr (s4_p7_den K (fun s w => B1 [s 3, s 19, s 20, s 21] w) s w) :=
  tr_draw (P := Tryd.prog) (ops := (ro (cd (Tryd.f4.body.getD .skip) [1, 1, 1, 0, 1, 0, 0, 1, 1, 0, 0, 1, 1, 1, 1, 1, 1, 1, 1, 0, 1, 0, 1, 0, 1, 1, 0, 0]))) (ms := [0, 1, 3, 7, 15, 31, 63, 0, 128, 511, 1023, 2047]) (cs := [0, 1, 2, 3, 4, 5, 6, 7, 8, 9, 10, 11]) (N := (fun s w => s4_p6 K B1 (s 3) (s 6) (s 7) (s 12) (s 13) (s 19) (s 20) (s 21) w)) (N' := (s4_p6_den K (fun s w => B1 [s 3, s 19, s 20, s 21] w))) (s := s) (w := w) (p := s4_p7 K B1 (s 3) (s 6) (s 7) (s 12) (s 19) (s 20) (s 21) w) (q := s4_p7_den K (fun s w => B1 [s 3, s 19, s 20, s 21] w) s w) (by kernel_rfl) (by kernel_rfl) (fun s w h => s4_p6_ok K B1 s w @h) (by kernel_rfl) (by kernel_rfl) @h
def s4_p8 (K : Value → World → Prop) (B1 : List Value → World → Prop) (t3 t6 t7 t12 t19 t20 t21 t127 : Value) (w : World) : Prop :=
  ifb t127
  (s4_p7 K B1 t3 t6 t7 t12 t19 t20 t21 w)
  (s4_p3 K B1 t3 t6 t7 t12 t19 t20 t21 w)
def s4_p8_den (K : Value → World → Prop) (M1 : (Nat → Value) → World → Prop) : (Nat → Value) → World → Prop := fun s w => ifb (ev s (.tmp 127)) ((s4_p7_den K M1) s w) ((s4_p3_den K M1) s w)
theorem s4_p8_ok (K : Value → World → Prop) (B1 : List Value → World → Prop) (s : Nat → Value) (w : World) (h : s4_p8 K B1 (s 3) (s 6) (s 7) (s 12) (s 19) (s 20) (s 21) (s 127) w) : Tr (s4_p8_den K (fun s w => B1 [s 3, s 19, s 20, s 21] w) s w) :=
  tr_cond (v := ev s (.tmp 127)) (a := (fun s w => s4_p7 K B1 (s 3) (s 6) (s 7) (s 12) (s 19) (s 20) (s 21) w) s w) (a' := (s4_p7_den K (fun s w => B1 [s 3, s 19, s 20, s 21] w)) s w) (b := (fun s w => s4_p3 K B1 (s 3) (s 6) (s 7) (s 12) (s 19) (s 20) (s 21) w) s w) (b' := (s4_p3_den K (fun s w => B1 [s 3, s 19, s 20, s 21] w)) s w) (p := s4_p8 K B1 (s 3) (s 6) (s 7) (s 12) (s 19) (s 20) (s 21) (s 127) w) (q := s4_p8_den K (fun s w => B1 [s 3, s 19, s 20, s 21] w) s w) ((fun s w h => s4_p7_ok K B1 s w @h) s w) ((fun s w h => s4_p3_ok K B1 s w @h) s w) (by kernel_rfl) (by kernel_rfl) @h
def s4_p9 (K : Value → World → Prop) (B1 : List Value → World → Prop) (t3 t6 t7 t8 t12 t19 t20 t21 : Value) (w : World) : Prop :=
  gd t7 true (fd 0 t12) (fun t116 w =>
  gd t7 true (ld1 t116) (fun t117 w =>
  gd t7 true (boI .neq t117 (.int .i64 0)) (fun t118 w =>
  gd t7 true (fun K w => K t8 w) (fun t119 w =>
  gd t7 true (boB .neq t118 t119) (fun t120 w =>
  pk t7 t120 (.bool false) (fun t121 w =>
  ifb t121
  (K (.bool false) w)
  (gd t7 true (fd 0 t12) (fun t124 w =>
  gd t7 true (ld1 t124) (fun t125 w =>
  gd t7 true (boI .eql t125 (.int .i64 0)) (fun t126 w =>
  pk t7 t126 (.bool false) (fun t127 w =>
  s4_p8 K B1 t3 t6 t7 t12 t19 t20 t21 t127 w) w) w) w) w)) w) w) w) w) w) w
def s4_p9_den (K : Value → World → Prop) (M1 : (Nat → Value) → World → Prop) : (Nat → Value) → World → Prop := denL Tryd.prog [(cd (Tryd.f4.body.getD .skip) [1, 1, 1, 0, 1, 0, 0, 1, 1, 0, 0, 1, 1, 1, 1, 1, 1, 1, 1, 0, 1, 0, 1, 0, 0, 0]), (cd (Tryd.f4.body.getD .skip) [1, 1, 1, 0, 1, 0, 0, 1, 1, 0, 0, 1, 1, 1, 1, 1, 1, 1, 1, 0, 1, 0, 1, 0, 0, 1]), (cd (Tryd.f4.body.getD .skip) [1, 1, 1, 0, 1, 0, 0, 1, 1, 0, 0, 1, 1, 1, 1, 1, 1, 1, 1, 0, 1, 0, 1, 0, 1, 0])] (s4_p8_den K M1) (fun i => (bif Nat.beq i 2 then (s4_p3_den K M1) else (bif Nat.beq i 1 then (s4_p2_den K M1) else (bif Nat.beq i 0 then (s4_p1_den K) else (fun _ _ => False))))) (s4_R K)
theorem s4_p9_ok (K : Value → World → Prop) (B1 : List Value → World → Prop) (s : Nat → Value) (w : World) (h : s4_p9 K B1 (s 3) (s 6) (s 7) (s 8) (s 12) (s 19) (s 20) (s 21) w) : Tr (s4_p9_den K (fun s w => B1 [s 3, s 19, s 20, s 21] w) s w) :=
  tr_simple (P := Tryd.prog) (codes := [(cd (Tryd.f4.body.getD .skip) [1, 1, 1, 0, 1, 0, 0, 1, 1, 0, 0, 1, 1, 1, 1, 1, 1, 1, 1, 0, 1, 0, 1, 0, 0, 0]), (cd (Tryd.f4.body.getD .skip) [1, 1, 1, 0, 1, 0, 0, 1, 1, 0, 0, 1, 1, 1, 1, 1, 1, 1, 1, 0, 1, 0, 1, 0, 0, 1]), (cd (Tryd.f4.body.getD .skip) [1, 1, 1, 0, 1, 0, 0, 1, 1, 0, 0, 1, 1, 1, 1, 1, 1, 1, 1, 0, 1, 0, 1, 0, 1, 0])]) (N := (fun s w => s4_p8 K B1 (s 3) (s 6) (s 7) (s 12) (s 19) (s 20) (s 21) (s 127) w)) (N' := (s4_p8_den K (fun s w => B1 [s 3, s 19, s 20, s 21] w))) (X := (fun i => (bif Nat.beq i 2 then (fun s w => s4_p3 K B1 (s 3) (s 6) (s 7) (s 12) (s 19) (s 20) (s 21) w) else (bif Nat.beq i 1 then (fun s w => s4_p2 K B1 (s 3) (s 19) (s 20) (s 21) w) else (bif Nat.beq i 0 then (fun s w => s4_p1 K w) else (fun _ _ => False)))))) (X' := (fun i => (bif Nat.beq i 2 then (s4_p3_den K (fun s w => B1 [s 3, s 19, s 20, s 21] w)) else (bif Nat.beq i 1 then (s4_p2_den K (fun s w => B1 [s 3, s 19, s 20, s 21] w)) else (bif Nat.beq i 0 then (s4_p1_den K) else (fun _ _ => False)))))) (R := s4_R K) (s := s) (w := w) (p := s4_p9 K B1 (s 3) (s 6) (s 7) (s 8) (s 12) (s 19) (s 20) (s 21) w) (q := s4_p9_den K (fun s w => B1 [s 3, s 19, s 20, s 21] w) s w) (fun s w h => s4_p8_ok K B1 s w @h) (fun i => (tr_bif (fun s w h => s4_p3_ok K B1 s w @h) (tr_bif (fun s w h => s4_p2_ok K B1 s w @h) (tr_bif (fun s w h => s4_p1_ok K s w @h) tr_id)))) (by kernel_rfl) (by kernel_rfl) @h
def s4_p10 (K : Value → World → Prop) (B1 : List Value → World → Prop) (t3 t6 t7 t9 t12 t19 t20 t21 t182 : Value) (w : World) : Prop :=
  ifb t182
  (fd 0 t12 (fun t185 w =>
  ld1 t185 (fun t186 w =>
  boI .eql t186 (.int .i64 0) (fun t187 w =>
  boB .neq t187 t9 (fun t189 w =>
  ifb t189
  (K (.bool false) w)
  (s4_p3 K B1 t3 t6 t7 t12 t19 t20 t21 w)) w) w) w) w)
  (s4_p3 K B1 t3 t6 t7 t12 t19 t20 t21 w)
def s4_p10_den (K : Value → World → Prop) (M1 : (Nat → Value) → World → Prop) : (Nat → Value) → World → Prop := denL Tryd.prog [(cd (Tryd.f4.body.getD .skip) [1, 1, 1, 0, 1, 0, 0, 1, 1, 0, 0, 1, 1, 1, 1, 1, 1, 1, 1, 0, 1, 0, 1, 1, 1])] (s4_p3_den K M1) (fun i => (bif Nat.beq i 2 then (s4_p3_den K M1) else (bif Nat.beq i 1 then (s4_p2_den K M1) else (bif Nat.beq i 0 then (s4_p1_den K) else (fun _ _ => False))))) (s4_R K)
theorem s4_p10_ok (K : Value → World → Prop) (B1 : List Value → World → Prop) (s : Nat → Value) (w : World) (h : s4_p10 K B1 (s 3) (s 6) (s 7) (s 9) (s 12) (s 19) (s 20) (s 21) (s 182) w) : Tr (s4_p10_den K (fun s w => B1 [s 3, s 19, s 20, s 21] w) s w) :=
  tr_simple (P := Tryd.prog) (codes := [(cd (Tryd.f4.body.getD .skip) [1, 1, 1, 0, 1, 0, 0, 1, 1, 0, 0, 1, 1, 1, 1, 1, 1, 1, 1, 0, 1, 0, 1, 1, 1])]) (N := (fun s w => s4_p3 K B1 (s 3) (s 6) (s 7) (s 12) (s 19) (s 20) (s 21) w)) (N' := (s4_p3_den K (fun s w => B1 [s 3, s 19, s 20, s 21] w))) (X := (fun i => (bif Nat.beq i 2 then (fun s w => s4_p3 K B1 (s 3) (s 6) (s 7) (s 12) (s 19) (s 20) (s 21) w) else (bif Nat.beq i 1 then (fun s w => s4_p2 K B1 (s 3) (s 19) (s 20) (s 21) w) else (bif Nat.beq i 0 then (fun s w => s4_p1 K w) else (fun _ _ => False)))))) (X' := (fun i => (bif Nat.beq i 2 then (s4_p3_den K (fun s w => B1 [s 3, s 19, s 20, s 21] w)) else (bif Nat.beq i 1 then (s4_p2_den K (fun s w => B1 [s 3, s 19, s 20, s 21] w)) else (bif Nat.beq i 0 then (s4_p1_den K) else (fun _ _ => False)))))) (R := s4_R K) (s := s) (w := w) (p := s4_p10 K B1 (s 3) (s 6) (s 7) (s 9) (s 12) (s 19) (s 20) (s 21) (s 182) w) (q := s4_p10_den K (fun s w => B1 [s 3, s 19, s 20, s 21] w) s w) (fun s w h => s4_p3_ok K B1 s w @h) (fun i => (tr_bif (fun s w h => s4_p3_ok K B1 s w @h) (tr_bif (fun s w h => s4_p2_ok K B1 s w @h) (tr_bif (fun s w h => s4_p1_ok K s w @h) tr_id)))) (by kernel_rfl) (by kernel_rfl) @h
def s4_p11 (K : Value → World → Prop) (B1 : List Value → World → Prop) (t3 t6 t7 t9 t12 t19 t20 t21 t111 : Value) (w : World) : Prop :=
  boI .eql t111 (.int .u8 3) (fun t183 w =>
  ifb t183
  (s4_p10 K B1 t3 t6 t7 t9 t12 t19 t20 t21 t183 w)
  (boI .eql t111 (.int .u8 4) (fun t184 w =>
  s4_p10 K B1 t3 t6 t7 t9 t12 t19 t20 t21 t184 w) w)) w
def s4_p11_den (K : Value → World → Prop) (M1 : (Nat → Value) → World → Prop) : (Nat → Value) → World → Prop := denL Tryd.prog [(cd (Tryd.f4.body.getD .skip) [1, 1, 1, 0, 1, 0, 0, 1, 1, 0, 0, 1, 1, 1, 1, 1, 1, 1, 1, 0, 1, 0, 1, 1, 0, 0]), (cd (Tryd.f4.body.getD .skip) [1, 1, 1, 0, 1, 0, 0, 1, 1, 0, 0, 1, 1, 1, 1, 1, 1, 1, 1, 0, 1, 0, 1, 1, 0, 1])] (s4_p10_den K M1) (fun i => (bif Nat.beq i 2 then (s4_p3_den K M1) else (bif Nat.beq i 1 then (s4_p2_den K M1) else (bif Nat.beq i 0 then (s4_p1_den K) else (fun _ _ => False))))) (s4_R K)
theorem s4_p11_ok (K : Value → World → Prop) (B1 : List Value → World → Prop) (s : Nat → Value) (w : World) (h : s4_p11 K B1 (s 3) (s 6) (s 7) (s 9) (s 12) (s 19) (s 20) (s 21) (s 111) w) : Tr (s4_p11_den K (fun s w => B1 [s 3, s 19, s 20, s 21] w) s w) :=
  tr_simple (P := Tryd.prog) (codes := [(cd (Tryd.f4.body.getD .skip) [1, 1, 1, 0, 1, 0, 0, 1, 1, 0, 0, 1, 1, 1, 1, 1, 1, 1, 1, 0, 1, 0, 1, 1, 0, 0]), (cd (Tryd.f4.body.getD .skip) [1, 1, 1, 0, 1, 0, 0, 1, 1, 0, 0, 1, 1, 1, 1, 1, 1, 1, 1, 0, 1, 0, 1, 1, 0, 1])]) (N := (fun s w => s4_p10 K B1 (s 3) (s 6) (s 7) (s 9) (s 12) (s 19) (s 20) (s 21) (s 182) w)) (N' := (s4_p10_den K (fun s w => B1 [s 3, s 19, s 20, s 21] w))) (X := (fun i => (bif Nat.beq i 2 then (fun s w => s4_p3 K B1 (s 3) (s 6) (s 7) (s 12) (s 19) (s 20) (s 21) w) else (bif Nat.beq i 1 then (fun s w => s4_p2 K B1 (s 3) (s 19) (s 20) (s 21) w) else (bif Nat.beq i 0 then (fun s w => s4_p1 K w) else (fun _ _ => False)))))) (X' := (fun i => (bif Nat.beq i 2 then (s4_p3_den K (fun s w => B1 [s 3, s 19, s 20, s 21] w)) else (bif Nat.beq i 1 then (s4_p2_den K (fun s w => B1 [s 3, s 19, s 20, s 21] w)) else (bif Nat.beq i 0 then (s4_p1_den K) else (fun _ _ => False)))))) (R := s4_R K) (s := s) (w := w) (p := s4_p11 K B1 (s 3) (s 6) (s 7) (s 9) (s 12) (s 19) (s 20) (s 21) (s 111) w) (q := s4_p11_den K (fun s w => B1 [s 3, s 19, s 20, s 21] w) s w) (fun s w h => s4_p10_ok K B1 s w @h) (fun i => (tr_bif (fun s w h => s4_p3_ok K B1 s w @h) (tr_bif (fun s w h => s4_p2_ok K B1 s w @h) (tr_bif (fun s w h => s4_p1_ok K s w @h) tr_id)))) (by kernel_rfl) (by kernel_rfl) @h
def s4_p12 (K : Value → World → Prop) (B1 : List Value → World → Prop) (t3 t6 t7 t8 t9 t12 t19 t20 t21 t111 t112 : Value) (w : World) : Prop :=
  ifb t112
  (s4_p9 K B1 t3 t6 t7 t8 t12 t19 t20 t21 w)
  (s4_p11 K B1 t3 t6 t7 t9 t12 t19 t20 t21 t111 w)
def s4_p12_den (K : Value → World → Prop) (M1 : (Nat → Value) → World → Prop) : (Nat → Value) → World → Prop := fun s w => ifb (ev s (.tmp 112)) ((s4_p9_den K M1) s w) ((s4_p11_den K M1) s w)
theorem s4_p12_ok (K : Value → World → Prop) (B1 : List Value → World → Prop) (s : Nat → Value) (w : World) (h : s4_p12 K B1 (s 3) (s 6) (s 7) (s 8) (s 9) (s 12) (s 19) (s 20) (s 21) (s 111) (s 112) w) : Tr (s4_p12_den K (fun s w => B1 [s 3, s 19, s 20, s 21] w) s w) :=
  tr_cond (v := ev s (.tmp 112)) (a := (fun s w => s4_p9 K B1 (s 3) (s 6) (s 7) (s 8) (s 12) (s 19) (s 20) (s 21) w) s w) (a' := (s4_p9_den K (fun s w => B1 [s 3, s 19, s 20, s 21] w)) s w) (b := (fun s w => s4_p11 K B1 (s 3) (s 6) (s 7) (s 9) (s 12) (s 19) (s 20) (s 21) (s 111) w) s w) (b' := (s4_p11_den K (fun s w => B1 [s 3, s 19, s 20, s 21] w)) s w) (p := s4_p12 K B1 (s 3) (s 6) (s 7) (s 8) (s 9) (s 12) (s 19) (s 20) (s 21) (s 111) (s 112) w) (q := s4_p12_den K (fun s w => B1 [s 3, s 19, s 20, s 21] w) s w) ((fun s w h => s4_p9_ok K B1 s w @h) s w) ((fun s w h => s4_p11_ok K B1 s w @h) s w) (by kernel_rfl) (by kernel_rfl) @h
def s4_p13 (K : Value → World → Prop) (B1 : List Value → World → Prop) (t3 t6 t7 t8 t9 t12 t19 t20 t21 t111 : Value) (w : World) : Prop :=
  boI .eql t111 (.int .u8 2) (fun t113 w =>
  s4_p12 K B1 t3 t6 t7 t8 t9 t12 t19 t20 t21 t111 t113 w) w
def s4_p13_den (K : Value → World → Prop) (M1 : (Nat → Value) → World → Prop) : (Nat → Value) → World → Prop := denL Tryd.prog [(cd (Tryd.f4.body.getD .skip) [1, 1, 1, 0, 1, 0, 0, 1, 1, 0, 0, 1, 1, 1, 1, 1, 1, 1, 1, 0, 1, 0, 0])] (s4_p12_den K M1) (fun i => (bif Nat.beq i 2 then (s4_p3_den K M1) else (bif Nat.beq i 1 then (s4_p2_den K M1) else (bif Nat.beq i 0 then (s4_p1_den K) else (fun _ _ => False))))) (s4_R K)
theorem s4_p13_ok (K : Value → World → Prop) (B1 : List Value → World → Prop) (s : Nat → Value) (w : World) (h : s4_p13 K B1 (s 3) (s 6) (s 7) (s 8) (s 9) (s 12) (s 19) (s 20) (s 21) (s 111) w) : Tr (s4_p13_den K (fun s w => B1 [s 3, s 19, s 20, s 21] w) s w) :=
  tr_simple (P := Tryd.prog) (codes := [(cd (Tryd.f4.body.getD .skip) [1, 1, 1, 0, 1, 0, 0, 1, 1, 0, 0, 1, 1, 1, 1, 1, 1, 1, 1, 0, 1, 0, 0])]) (N := (fun s w => s4_p12 K B1 (s 3) (s 6) (s 7) (s 8) (s 9) (s 12) (s 19) (s 20) (s 21) (s 111) (s 112) w)) (N' := (s4_p12_den K (fun s w => B1 [s 3, s 19, s 20, s 21] w))) (X := (fun i => (bif Nat.beq i 2 then (fun s w => s4_p3 K B1 (s 3) (s 6) (s 7) (s 12) (s 19) (s 20) (s 21) w) else (bif Nat.beq i 1 then (fun s w => s4_p2 K B1 (s 3) (s 19) (s 20) (s 21) w) else (bif Nat.beq i 0 then (fun s w => s4_p1 K w) else (fun _ _ => False)))))) (X' := (fun i => (bif Nat.beq i 2 then (s4_p3_den K (fun s w => B1 [s 3, s 19, s 20, s 21] w)) else (bif Nat.beq i 1 then (s4_p2_den K (fun s w => B1 [s 3, s 19, s 20, s 21] w)) else (bif Nat.beq i 0 then (s4_p1_den K) else (fun _ _ => False)))))) (R := s4_R K) (s := s) (w := w) (p := s4_p13 K B1 (s 3) (s 6) (s 7) (s 8) (s 9) (s 12) (s 19) (s 20) (s 21) (s 111) w) (q := s4_p13_den K (fun s w => B1 [s 3, s 19, s 20, s 21] w) s w) (fun s w h => s4_p12_ok K B1 s w @h) (fun i => (tr_bif (fun s w h => s4_p3_ok K B1 s w @h) (tr_bif (fun s w h => s4_p2_ok K B1 s w @h) (tr_bif (fun s w h => s4_p1_ok K s w @h) tr_id)))) (by kernel_rfl) (by kernel_rfl) @h
def s4_p14 (K : Value → World → Prop) (B1 : List Value → World → Prop) (t3 t6 t7 t8 t9 t19 t20 t21 : Value) (w : World) : Prop :=
  ldn 6 t6 (fun t108 w =>
  cl Tryd.prog 14 #[t3, t108] (fun t109 w =>
  nw 41 #[(.int .i64 0), (.int .i64 0), (.int .u32 0), (.int .u32 0), (.int .u32 0), (.int .u32 0), (.int .u64 0), (.int .u64 0), (.slice none 0 0)] (fun t12 w =>
  stn 9 t12 t109 (fun w =>
  fd 0 t6 (fun t110 w =>
  ld1 t110 (fun t111 w =>
  s4_p13 K B1 t3 t6 t7 t8 t9 t12 t19 t20 t21 t111 w) w) w) w) w) w) w
def s4_p14_den (K : Value → World → Prop) (M1 : (Nat → Value) → World → Prop) : (Nat → Value) → World → Prop := denL Tryd.prog [(cd (Tryd.f4.body.getD .skip) [1, 1, 1, 0, 1, 0, 0, 1, 1, 0, 0, 1, 1, 1, 1, 1, 1, 1, 0]), (cd (Tryd.f4.body.getD .skip) [1, 1, 1, 0, 1, 0, 0, 1, 1, 0, 0, 1, 1, 1, 1, 1, 1, 1, 1, 0, 0])] (s4_p13_den K M1) (fun i => (bif Nat.beq i 1 then (s4_p2_den K M1) else (bif Nat.beq i 0 then (s4_p1_den K) else (fun _ _ => False)))) (s4_R K)
theorem s4_p14_ok (K : Value → World → Prop) (B1 : List Value → World → Prop) (s : Nat → Value) (w : World) (h : s4_p14 K B1 (s 3) (s 6) (s 7) (s 8) (s 9) (s 19) (s 20) (s 21) w) : Tr (s4_p14_den K (fun s w => B1 [s 3, s 19, s 20, s 21] w) s w) :=
  tr_simple (P := Tryd.prog) (codes := [(cd (Tryd.f4.body.getD .skip) [1, 1, 1, 0, 1, 0, 0, 1, 1, 0, 0, 1, 1, 1, 1, 1, 1, 1, 0]), (cd (Tryd.f4.body.getD .skip) [1, 1, 1, 0, 1, 0, 0, 1, 1, 0, 0, 1, 1, 1, 1, 1, 1, 1, 1, 0, 0])]) (N := (fun s w => s4_p13 K B1 (s 3) (s 6) (s 7) (s 8) (s 9) (s 12) (s 19) (s 20) (s 21) (s 111) w)) (N' := (s4_p13_den K (fun s w => B1 [s 3, s 19, s 20, s 21] w))) (X := (fun i => (bif Nat.beq i 1 then (fun s w => s4_p2 K B1 (s 3) (s 19) (s 20) (s 21) w) else (bif Nat.beq i 0 then (fun s w => s4_p1 K w) else (fun _ _ => False))))) (X' := (fun i => (bif Nat.beq i 1 then (s4_p2_den K (fun s w => B1 [s 3, s 19, s 20, s 21] w)) else (bif Nat.beq i 0 then (s4_p1_den K) else (fun _ _ => False))))) (R := s4_R K) (s := s) (w := w) (p := s4_p14 K B1 (s 3) (s 6) (s 7) (s 8) (s 9) (s 19) (s 20) (s 21) w) (q := s4_p14_den K (fun s w => B1 [s 3, s 19, s 20, s 21] w) s w) (fun s w h => s4_p13_ok K B1 s w @h) (fun i => (tr_bif (fun s w h => s4_p2_ok K B1 s w @h) (tr_bif (fun s w h => s4_p1_ok K s w @h) tr_id))) (by kernel_rfl) (by kernel_rfl) @h
def s4_p15_d (K : Value → World → Prop) (B1 : List Value → World → Prop) (t3 t6 t7 t8 t10 t11 t19 t20 t21 : Value) (w0 w : World) : Prop :=
  boI .geq t11 (.int .i64 0) (fun t84 _ =>
  gd t84 true (fun K w => K t11 w) (fun t86 _ =>
  gd t84 true (fun K w => K t10 w) (fun t87 _ =>
  gd t84 true (nck t87) (fun t88 _ =>
  gd t84 true (fd 0 t88) (fun t89 _ =>
  gd t84 true (ld1 t89) (fun t90 _ =>
  gd t84 true (boI .rem t86 t90) (fun t91 _ =>
  gd t84 true (boI .eql t91 (.int .i64 0)) (fun t92 _ =>
  pk t84 t92 (.bool false) (fun t93 _ =>
  gd t93 true (fun K w => K t10 w) (fun t95 _ =>
  gd t93 true (nck t95) (fun t96 _ =>
  gd t93 true (fd 2 t96) (fun t97 _ =>
  gd t93 true (ld1 t97) (fun t98 _ =>
  gd t93 true (fun K w => K t11 w) (fun t99 _ =>
  gd t93 true (fun K w => K t10 w) (fun t100 _ =>
  gd t93 true (nck t100) (fun t101 _ =>
  gd t93 true (fd 0 t101) (fun t102 _ =>
  gd t93 true (ld1 t102) (fun t103 _ =>
  gd t93 true (boI .quo t99 t103) (fun t104 _ =>
  qv (gd t93 true (rs Tryd.prog (Instr.lookup 58 t98 t104 false))) w0 (fun t105 =>
  pk t93 t105 (.bool false) (fun t106 _ =>
  s4_p14 K B1 t3 t6 t7 t8 t106 t19 t20 t21 w) w0)) w0) w0) w0) w0) w0) w0) w0) w0) w0) w0) w0) w0) w0) w0) w0) w0) w0) w0) w0
def s4_p15 (K : Value → World → Prop) (B1 : List Value → World → Prop) (t3 t6 t7 t8 t10 t11 t19 t20 t21 : Value) (w : World) : Prop := s4_p15_d K B1 t3 t6 t7 t8 t10 t11 t19 t20 t21 (drw w) (drw w)
def s4_p15_den (K : Value → World → Prop) (M1 : (Nat → Value) → World → Prop) : (Nat → Value) → World → Prop := denL Tryd.prog [(cd (Tryd.f4.body.getD .skip) [1, 1, 1, 0, 1, 0, 0, 1, 1, 0, 0, 1, 1, 1, 1, 1, 1, 0, 1, 0, 1, 1, 1])] (s4_p14_den K M1) (fun i => (bif Nat.beq i 1 then (s4_p2_den K M1) else (bif Nat.beq i 0 then (s4_p1_den K) else (fun _ _ => False)))) (s4_R K)
theorem s4_p15_ok (K : Value → World → Prop) (B1 : List Value → World → Prop) (s : Nat → Value) (w : World) (h : s4_p15 K B1 (s 3) (s 6) (s 7) (s 8) (s 10) (s 11) (s 19) (s 20) (s 21) w) : Tr (s4_p15_den K (fun s w => B1 [s 3, s 19, s 20, s 21] w) s w) :=
  tr_draw (P := Tryd.prog) (ops := (ro (cd (Tryd.f4.body.getD .skip) [1, 1, 1, 0, 1, 0, 0, 1, 1, 0, 0, 1, 1, 1, 1, 1, 1, 0, 1, 0, 1, 1, 1]))) (ms := [0, 1, 3, 7, 7, 23, 55, 119, 255, 511, 1023, 2047, 4095, 8191, 16383, 32767, 4095, 4095, 135167, 397311, 921599, 2035711, 4194303, 8388607, 16777215]) (cs := [0, 1, 2, 3, 4, 5, 6, 7, 8, 9, 10, 11, 12, 13, 14, 15, 16, 17, 18, 19, 20, 21, 22, 23, 24]) (N := (fun s w => s4_p14 K B1 (s 3) (s 6) (s 7) (s 8) (s 9) (s 19) (s 20) (s 21) w)) (N' := (s4_p14_den K (fun s w => B1 [s 3, s 19, s 20, s 21] w))) (s := s) (w := w) (p := s4_p15 K B1 (s 3) (s 6) (s 7) (s 8) (s 10) (s 11) (s 19) (s 20) (s 21) w) (q := s4_p15_den K (fun s w => B1 [s 3, s 19, s 20, s 21] w) s w) (by kernel_rfl) (by kernel_rfl) (fun s w h => s4_p14_ok K B1 s w @h) (by kernel_rfl) (by kernel_rfl) @h
def s4_p16 (K : Value → World → Prop) (B1 : List Value → World → Prop) (t3 t6 t7 t8 t10 t19 t20 t21 : Value) (w : World) : Prop :=
  fd 1 t6 (fun t78 w =>
  ld1 t78 (fun t79 w =>
  fd 2 t6 (fun t80 w =>
  ld1 t80 (fun t81 w =>
  cl Tryd.prog 19 #[t3, t79, t81] (fun t82 w =>
  s4_p15 K B1 t3 t6 t7 t8 t10 t82 t19 t20 t21 w) w) w) w) w) w
def s4_p16_den (K : Value → World → Prop) (M1 : (Nat → Value) → World → Prop) : (Nat → Value) → World → Prop := denL Tryd.prog [(cd (Tryd.f4.body.getD .skip) [1, 1, 1, 0, 1, 0, 0, 1, 1, 0, 0, 1, 1, 1, 1, 1, 1, 0, 1, 0, 1, 1, 0])] (s4_p15_den K M1) (fun i => (bif Nat.beq i 1 then (s4_p2_den K M1) else (bif Nat.beq i 0 then (s4_p1_den K) else (fun _ _ => False)))) (s4_R K)
theorem s4_p16_ok (K : Value → World → Prop) (B1 : List Value → World → Prop) (s : Nat → Value) (w : World) (h : s4_p16 K B1 (s 3) (s 6) (s 7) (s 8) (s 10) (s 19) (s 20) (s 21) w) : Tr (s4_p16_den K (fun s w => B1 [s 3, s 19, s 20, s 21] w) s w) :=
  tr_simple (P := Tryd.prog) (codes := [(cd (Tryd.f4.body.getD .skip) [1, 1, 1, 0, 1, 0, 0, 1, 1, 0, 0, 1, 1, 1, 1, 1, 1, 0, 1, 0, 1, 1, 0])]) (N := (fun s w => s4_p15 K B1 (s 3) (s 6) (s 7) (s 8) (s 10) (s 11) (s 19) (s 20) (s 21) w)) (N' := (s4_p15_den K (fun s w => B1 [s 3, s 19, s 20, s 21] w))) (X := (fun i => (bif Nat.beq i 1 then (fun s w => s4_p2 K B1 (s 3) (s 19) (s 20) (s 21) w) else (bif Nat.beq i 0 then (fun s w => s4_p1 K w) else (fun _ _ => False))))) (X' := (fun i => (bif Nat.beq i 1 then (s4_p2_den K (fun s w => B1 [s 3, s 19, s 20, s 21] w)) else (bif Nat.beq i 0 then (s4_p1_den K) else (fun _ _ => False))))) (R := s4_R K) (s := s) (w := w) (p := s4_p16 K B1 (s 3) (s 6) (s 7) (s 8) (s 10) (s 19) (s 20) (s 21) w) (q := s4_p16_den K (fun s w => B1 [s 3, s 19, s 20, s 21] w) s w) (fun s w h => s4_p15_ok K B1 s w @h) (fun i => (tr_bif (fun s w h => s4_p2_ok K B1 s w @h) (tr_bif (fun s w h => s4_p1_ok K s w @h) tr_id))) (by kernel_rfl) (by kernel_rfl) @h
def s4_p17_d (K : Value → World → Prop) (B1 : List Value → World → Prop) (t3 t6 t7 t10 t19 t20 t21 : Value) (w0 w : World) : Prop :=
  nck t10 (fun t68 _ =>
  fd 2 t68 (fun t69 _ =>
  ld1 t69 (fun t70 _ =>
  qv (rs Tryd.prog (Builtin.len_ #[58] 3 #[t70])) w0 (fun t71 =>
  nck t10 (fun t73 _ =>
  fd 1 t73 (fun t74 _ =>
  ld1 t74 (fun t75 _ =>
  boI .eql t71 t75 (fun t76 _ =>
  s4_p16 K B1 t3 t6 t7 t76 t10 t19 t20 t21 w) w0) w0) w0) w0)) w0) w0) w0
def s4_p17 (K : Value → World → Prop) (B1 : List Value → World → Prop) (t3 t6 t7 t10 t19 t20 t21 : Value) (w : World) : Prop := s4_p17_d K B1 t3 t6 t7 t10 t19 t20 t21 (drw w) (drw w)
def s4_p17_den (K : Value → World → Prop) (M1 : (Nat → Value) → World → Prop) : (Nat → Value) → World → Prop := denL Tryd.prog [(cd (Tryd.f4.body.getD .skip) [1, 1, 1, 0, 1, 0, 0, 1, 1, 0, 0, 1, 1, 1, 1, 1, 1, 0, 1, 0, 1, 0])] (s4_p16_den K M1) (fun i => (bif Nat.beq i 1 then (s4_p2_den K M1) else (bif Nat.beq i 0 then (s4_p1_den K) else (fun _ _ => False)))) (s4_R K)
theorem s4_p17_ok (K : Value → World → Prop) (B1 : List Value → World → Prop) (s : Nat → Value) (w : World) (h : s4_p17 K B1 (s 3) (s 6) (s 7) (s 10) (s 19) (s 20) (s 21) w) : Tr (s4_p17_den K (fun s w => B1 [s 3, s 19, s 20, s 21] w) s w) :=
  tr_draw (P := Tryd.prog) (ops := (ro (cd (Tryd.f4.body.getD .skip) [1, 1, 1, 0, 1, 0, 0, 1, 1, 0, 0, 1, 1, 1, 1, 1, 1, 0, 1, 0, 1, 0]))) (ms := [0, 1, 3, 7, 15, 0, 32, 96, 224, 511, 1023]) (cs := [0, 1, 2, 3, 4, 5, 6, 7, 8, 9, 10]) (N := (fun s w => s4_p16 K B1 (s 3) (s 6) (s 7) (s 8) (s 10) (s 19) (s 20) (s 21) w)) (N' := (s4_p16_den K (fun s w => B1 [s 3, s 19, s 20, s 21] w))) (s := s) (w := w) (p := s4_p17 K B1 (s 3) (s 6) (s 7) (s 10) (s 19) (s 20) (s 21) w) (q := s4_p17_den K (fun s w => B1 [s 3, s 19, s 20, s 21] w) s w) (by kernel_rfl) (by kernel_rfl) (fun s w h => s4_p16_ok K B1 s w @h) (by kernel_rfl) (by kernel_rfl) @h
def s4_p18_d (K : Value → World → Prop) (B1 : List Value → World → Prop) (t3 t6 t7 t19 t20 t21 : Value) (w0 w : World) : Prop :=
  nck t3 (fun t57 _ =>
  fd 2 t57 (fun t58 _ =>
  ld1 t58 (fun t59 _ =>
  nck t59 (fun t60 _ =>
  fd 1 t60 (fun t61 _ =>
  ld1 t61 (fun t62 _ =>
  fd 1 t6 (fun t63 _ =>
  ld1 t63 (fun t64 _ =>
  ixs 1 t62 t64 (fun t65 _ =>
  ld1 t65 (fun t66 _ =>
  s4_p17 K B1 t3 t6 t7 t66 t19 t20 t21 w) w0) w0) w0) w0) w0) w0) w0) w0) w0) w0
def s4_p18 (K : Value → World → Prop) (B1 : List Value → World → Prop) (t3 t6 t7 t19 t20 t21 : Value) (w : World) : Prop := s4_p18_d K B1 t3 t6 t7 t19 t20 t21 (drw w) (drw w)
def s4_p18_den (K : Value → World → Prop) (M1 : (Nat → Value) → World → Prop) : (Nat → Value) → World → Prop := denL Tryd.prog [(cd (Tryd.f4.body.getD .skip) [1, 1, 1, 0, 1, 0, 0, 1, 1, 0, 0, 1, 1, 1, 1, 1, 1, 0, 1, 0, 0])] (s4_p17_den K M1) (fun i => (bif Nat.beq i 1 then (s4_p2_den K M1) else (bif Nat.beq i 0 then (s4_p1_den K) else (fun _ _ => False)))) (s4_R K)
theorem s4_p18_ok (K : Value → World → Prop) (B1 : List Value → World → Prop) (s : Nat → Value) (w : World) (h : s4_p18 K B1 (s 3) (s 6) (s 7) (s 19) (s 20) (s 21) w) : Tr (s4_p18_den K (fun s w => B1 [s 3, s 19, s 20, s 21] w) s w) :=
  tr_draw (P := Tryd.prog) (ops := (ro (cd (Tryd.f4.body.getD .skip) [1, 1, 1, 0, 1, 0, 0, 1, 1, 0, 0, 1, 1, 1, 1, 1, 1, 0, 1, 0, 0]))) (ms := [0, 1, 3, 7, 15, 31, 63, 0, 128, 511, 1023, 2047]) (cs := [0, 1, 2, 3, 4, 5, 6, 7, 8, 9, 10, 11]) (N := (fun s w => s4_p17 K B1 (s 3) (s 6) (s 7) (s 10) (s 19) (s 20) (s 21) w)) (N' := (s4_p17_den K (fun s w => B1 [s 3, s 19, s 20, s 21] w))) (s := s) (w := w) (p := s4_p18 K B1 (s 3) (s 6) (s 7) (s 19) (s 20) (s 21) w) (q := s4_p18_den K (fun s w => B1 [s 3, s 19, s 20, s 21] w) s w) (by kernel_rfl) (by kernel_rfl) (fun s w h => s4_p17_ok K B1 s w @h) (by kernel_rfl) (by kernel_rfl) @h
def s4_p19 (K : Value → World → Prop) (B1 : List Value → World → Prop) (t3 t6 t7 t8 t9 t19 t20 t21 t55 : Value) (w : World) : Prop :=
  ifb t55
  (s4_p18 K B1 t3 t6 t7 t19 t20 t21 w)
  (s4_p14 K B1 t3 t6 t7 t8 t9 t19 t20 t21 w)
def s4_p19_den (K : Value → World → Prop) (M1 : (Nat → Value) → World → Prop) : (Nat → Value) → World → Prop := fun s w => ifb (ev s (.tmp 55)) ((s4_p18_den K M1) s w) ((s4_p14_den K M1) s w)
theorem s4_p19_ok (K : Value → World → Prop) (B1 : List Value → World → Prop) (s : Nat → Value) (w : World) (h : s4_p19 K B1 (s 3) (s 6) (s 7) (s 8) (s 9) (s 19) (s 20) (s 21) (s 55) w) : Tr (s4_p19_den K (fun s w => B1 [s 3, s 19, s 20, s 21] w) s w) :=
  tr_cond (v := ev s (.tmp 55)) (a := (fun s w => s4_p18 K B1 (s 3) (s 6) (s 7) (s 19) (s 20) (s 21) w) s w) (a' := (s4_p18_den K (fun s w => B1 [s 3, s 19, s 20, s 21] w)) s w) (b := (fun s w => s4_p14 K B1 (s 3) (s 6) (s 7) (s 8) (s 9) (s 19) (s 20) (s 21) w) s w) (b' := (s4_p14_den K (fun s w => B1 [s 3, s 19, s 20, s 21] w)) s w) (p := s4_p19 K B1 (s 3) (s 6) (s 7) (s 8) (s 9) (s 19) (s 20) (s 21) (s 55) w) (q := s4_p19_den K (fun s w => B1 [s 3, s 19, s 20, s 21] w) s w) ((fun s w h => s4_p18_ok K B1 s w @h) s w) ((fun s w h => s4_p14_ok K B1 s w @h) s w) (by kernel_rfl) (by kernel_rfl) @h
def s4_p20 (K : Value → World → Prop) (B1 : List Value → World → Prop) (t3 t6 t7 t19 t20 t21 : Value) (w : World) : Prop :=
  s4_p19 K B1 t3 t6 t7 (.bool false) (.bool false) t19 t20 t21 t7 w
def s4_p20_den (K : Value → World → Prop) (M1 : (Nat → Value) → World → Prop) : (Nat → Value) → World → Prop := denL Tryd.prog [(cd (Tryd.f4.body.getD .skip) [1, 1, 1, 0, 1, 0, 0, 1, 1, 0, 0, 1, 1, 1, 1, 1, 0]), (cd (Tryd.f4.body.getD .skip) [1, 1, 1, 0, 1, 0, 0, 1, 1, 0, 0, 1, 1, 1, 1, 1, 1, 0, 0])] (s4_p19_den K M1) (fun i => (bif Nat.beq i 1 then (s4_p2_den K M1) else (bif Nat.beq i 0 then (s4_p1_den K) else (fun _ _ => False)))) (s4_R K)
theorem s4_p20_ok (K : Value → World → Prop) (B1 : List Value → World → Prop) (s : Nat → Value) (w : World) (h : s4_p20 K B1 (s 3) (s 6) (s 7) (s 19) (s 20) (s 21) w) : Tr (s4_p20_den K (fun s w => B1 [s 3, s 19, s 20, s 21] w) s w) :=
  tr_simple (P := Tryd.prog) (codes := [(cd (Tryd.f4.body.getD .skip) [1, 1, 1, 0, 1, 0, 0, 1, 1, 0, 0, 1, 1, 1, 1, 1, 0]), (cd (Tryd.f4.body.getD .skip) [1, 1, 1, 0, 1, 0, 0, 1, 1, 0, 0, 1, 1, 1, 1, 1, 1, 0, 0])]) (N := (fun s w => s4_p19 K B1 (s 3) (s 6) (s 7) (s 8) (s 9) (s 19) (s 20) (s 21) (s 55) w)) (N' := (s4_p19_den K (fun s w => B1 [s 3, s 19, s 20, s 21] w))) (X := (fun i => (bif Nat.beq i 1 then (fun s w => s4_p2 K B1 (s 3) (s 19) (s 20) (s 21) w) else (bif Nat.beq i 0 then (fun s w => s4_p1 K w) else (fun _ _ => False))))) (X' := (fun i => (bif Nat.beq i 1 then (s4_p2_den K (fun s w => B1 [s 3, s 19, s 20, s 21] w)) else (bif Nat.beq i 0 then (s4_p1_den K) else (fun _ _ => False))))) (R := s4_R K) (s := s) (w := w) (p := s4_p20 K B1 (s 3) (s 6) (s 7) (s 19) (s 20) (s 21) w) (q := s4_p20_den K (fun s w => B1 [s 3, s 19, s 20, s 21] w) s w) (fun s w h => s4_p19_ok K B1 s w @h) (fun i => (tr_bif (fun s w h => s4_p2_ok K B1 s w @h) (tr_bif (fun s w h => s4_p1_ok K s w @h) tr_id))) (by kernel_rfl) (by kernel_rfl) @h
def s4_p21_d (K : Value → World → Prop) (B1 : List Value → World → Prop) (t3 t6 t19 t20 t21 : Value) (w0 w : World) : Prop :=
  fd 1 t6 (fun t39 _ =>
  ld1 t39 (fun t40 _ =>
  boI .geq t40 (.int .i64 0) (fun t41 _ =>
  gd t41 true (fd 1 t6) (fun t43 _ =>
  gd t41 true (ld1 t43) (fun t44 _ =>
  gd t41 true (fun K w => K t3 w) (fun t45 _ =>
  gd t41 true (nck t45) (fun t46 _ =>
  gd t41 true (fd 2 t46) (fun t47 _ =>
  gd t41 true (ld1 t47) (fun t48 _ =>
  gd t41 true (nck t48) (fun t49 _ =>
  gd t41 true (fd 1 t49) (fun t50 _ =>
  gd t41 true (ld1 t50) (fun t51 _ =>
  gd t41 true (lnS t51) (fun t52 _ =>
  gd t41 true (boI .lss t44 t52) (fun t53 _ =>
  pk t41 t53 (.bool false) (fun t54 _ =>
  s4_p20 K B1 t3 t6 t54 t19 t20 t21 w) w0) w0) w0) w0) w0) w0) w0) w0) w0) w0) w0) w0) w0) w0) w0
def s4_p21 (K : Value → World → Prop) (B1 : List Value → World → Prop) (t3 t6 t19 t20 t21 : Value) (w : World) : Prop := s4_p21_d K B1 t3 t6 t19 t20 t21 (drw w) (drw w)
def s4_p21_den (K : Value → World → Prop) (M1 : (Nat → Value) → World → Prop) : (Nat → Value) → World → Prop := denL Tryd.prog [(cd (Tryd.f4.body.getD .skip) [1, 1, 1, 0, 1, 0, 0, 1, 1, 0, 0, 1, 1, 1, 1, 0])] (s4_p20_den K M1) (fun i => (bif Nat.beq i 1 then (s4_p2_den K M1) else (bif Nat.beq i 0 then (s4_p1_den K) else (fun _ _ => False)))) (s4_R K)
theorem s4_p21_ok (K : Value → World → Prop) (B1 : List Value → World → Prop) (s : Nat → Value) (w : World) (h : s4_p21 K B1 (s 3) (s 6) (s 19) (s 20) (s 21) w) : Tr (s4_p21_den K (fun s w => B1 [s 3, s 19, s 20, s 21] w) s w) :=
  tr_draw (P := Tryd.prog) (ops := (ro (cd (Tryd.f4.body.getD .skip) [1, 1, 1, 0, 1, 0, 0, 1, 1, 0, 0, 1, 1, 1, 1, 0]))) (ms := [0, 1, 3, 7, 15, 31, 15, 79, 207, 463, 975, 1999, 4047, 8143, 16383, 32767, 65535]) (cs := [0, 1, 2, 3, 4, 5, 6, 7, 8, 9, 10, 11, 12, 13, 14, 15, 16]) (N := (fun s w => s4_p20 K B1 (s 3) (s 6) (s 7) (s 19) (s 20) (s 21) w)) (N' := (s4_p20_den K (fun s w => B1 [s 3, s 19, s 20, s 21] w))) (s := s) (w := w) (p := s4_p21 K B1 (s 3) (s 6) (s 19) (s 20) (s 21) w) (q := s4_p21_den K (fun s w => B1 [s 3, s 19, s 20, s 21] w) s w) (by kernel_rfl) (by kernel_rfl) (fun s w h => s4_p20_ok K B1 s w @h) (by kernel_rfl) (by kernel_rfl) @h
def s4_p22 (K : Value → World → Prop) (B1 : List Value → World → Prop) (t3 t19 t20 t21 : Value) (w : World) : Prop :=
  ixs 4 t19 t21 (fun t23 w =>
  ldn 4 t23 (fun t24 w =>
  nw 28 #[(.int .u8 0), (.int .i64 0), (.int .i64 0), (.int .i64 0)] (fun t5 w =>
  stn 4 t5 t24 (fun w =>
  fd 0 t5 (fun t25 w =>
  ld1 t25 (fun t26 w =>
  boI .eql t26 (.int .u8 8) (fun t27 w =>
  ifb t27
  (s4_p2 K B1 t3 t19 t20 t21 w)
  (ldn 4 t5 (fun t29 w =>
  cl Tryd.prog 13 #[t3, t29] (fun t30 w =>
  nw 33 #[(.int .u8 0), (.int .i64 0), (.int .u32 0), (.int .i64 0), (.int .i64 0), (.int .i64 0)] (fun t6 w =>
  stn 6 t6 t30 (fun w =>
  fd 0 t6 (fun t31 w =>
  ld1 t31 (fun t32 w =>
  boI .eql t32 (.int .u8 4) (fun t33 w =>
  ifb t33
  (fd 2 t6 (fun t35 w =>
  ld1 t35 (fun t36 w =>
  cl Tryd.prog 18 #[t3, t36] (fun t37 w =>
  fd 1 t6 (fun t38 w =>
  st1 t38 t37 (fun w =>
  s4_p21 K B1 t3 t6 t19 t20 t21 w) w) w) w) w) w)
  (s4_p21 K B1 t3 t6 t19 t20 t21 w)) w) w) w) w) w) w) w)) w) w) w) w) w) w) w
def s4_p22_den (K : Value → World → Prop) (M1 : (Nat → Value) → World → Prop) : (Nat → Value) → World → Prop := denL Tryd.prog [(cd (Tryd.f4.body.getD .skip) [1, 1, 1, 0, 1, 0, 0, 1, 1, 0, 0, 0]), (cd (Tryd.f4.body.getD .skip) [1, 1, 1, 0, 1, 0, 0, 1, 1, 0, 0, 1, 0, 0]), (cd (Tryd.f4.body.getD .skip) [1, 1, 1, 0, 1, 0, 0, 1, 1, 0, 0, 1, 0, 1]), (cd (Tryd.f4.body.getD .skip) [1, 1, 1, 0, 1, 0, 0, 1, 1, 0, 0, 1, 1, 0]), (cd (Tryd.f4.body.getD .skip) [1, 1, 1, 0, 1, 0, 0, 1, 1, 0, 0, 1, 1, 1, 0, 0]), (cd (Tryd.f4.body.getD .skip) [1, 1, 1, 0, 1, 0, 0, 1, 1, 0, 0, 1, 1, 1, 0, 1])] (s4_p21_den K M1) (fun i => (bif Nat.beq i 1 then (s4_p2_den K M1) else (bif Nat.beq i 0 then (s4_p1_den K) else (fun _ _ => False)))) (s4_R K)
theorem s4_p22_ok (K : Value → World → Prop) (B1 : List Value → World → Prop) (s : Nat → Value) (w : World) (h : s4_p22 K B1 (s 3) (s 19) (s 20) (s 21) w) : Tr (s4_p22_den K (fun s w => B1 [s 3, s 19, s 20, s 21] w) s w) :=
  tr_simple (P := Tryd.prog) (codes := [(cd (Tryd.f4.body.getD .skip) [1, 1, 1, 0, 1, 0, 0, 1, 1, 0, 0, 0]), (cd (Tryd.f4.body.getD .skip) [1, 1, 1, 0, 1, 0, 0, 1, 1, 0, 0, 1, 0, 0]), (cd (Tryd.f4.body.getD .skip) [1, 1, 1, 0, 1, 0, 0, 1, 1, 0, 0, 1, 0, 1]), (cd (Tryd.f4.body.getD .skip) [1, 1, 1, 0, 1, 0, 0, 1, 1, 0, 0, 1, 1, 0]), (cd (Tryd.f4.body.getD .skip) [1, 1, 1, 0, 1, 0, 0, 1, 1, 0, 0, 1, 1, 1, 0, 0]), (cd (Tryd.f4.body.getD .skip) [1, 1, 1, 0, 1, 0, 0, 1, 1, 0, 0, 1, 1, 1, 0, 1])]) (N := (fun s w => s4_p21 K B1 (s 3) (s 6) (s 19) (s 20) (s 21) w)) (N' := (s4_p21_den K (fun s w => B1 [s 3, s 19, s 20, s 21] w))) (X := (fun i => (bif Nat.beq i 1 then (fun s w => s4_p2 K B1 (s 3) (s 19) (s 20) (s 21) w) else (bif Nat.beq i 0 then (fun s w => s4_p1 K w) else (fun _ _ => False))))) (X' := (fun i => (bif Nat.beq i 1 then (s4_p2_den K (fun s w => B1 [s 3, s 19, s 20, s 21] w)) else (bif Nat.beq i 0 then (s4_p1_den K) else (fun _ _ => False))))) (R := s4_R K) (s := s) (w := w) (p := s4_p22 K B1 (s 3) (s 19) (s 20) (s 21) w) (q := s4_p22_den K (fun s w => B1 [s 3, s 19, s 20, s 21] w) s w) (fun s w h => s4_p21_ok K B1 s w @h) (fun i => (tr_bif (fun s w h => s4_p2_ok K B1 s w @h) (tr_bif (fun s w h => s4_p1_ok K s w @h) tr_id))) (by kernel_rfl) (by kernel_rfl) @h
def s4_p23 (K : Value → World → Prop) (B1 : List Value → World → Prop) (t3 t19 t20 t21 : Value) (w : World) : Prop :=
  boI .lss t21 t20 (fun t22 w =>
  ifb t22
  (s4_p22 K B1 t3 t19 t20 t21 w)
  (s4_p1 K w)) w
def s4_p23_den (K : Value → World → Prop) (M1 : (Nat → Value) → World → Prop) : (Nat → Value) → World → Prop := denL Tryd.prog [(cd (Tryd.f4.body.getD .skip) [1, 1, 1, 0, 1, 0, 0, 0]), (cd (Tryd.f4.body.getD .skip) [1, 1, 1, 0, 1, 0, 0, 1, 0])] (s4_p22_den K M1) (fun i => (bif Nat.beq i 0 then (s4_p1_den K) else (fun _ _ => False))) (s4_R K)
theorem s4_p23_ok (K : Value → World → Prop) (B1 : List Value → World → Prop) (s : Nat → Value) (w : World) (h : s4_p23 K B1 (s 3) (s 19) (s 20) (s 21) w) : Tr (s4_p23_den K (fun s w => B1 [s 3, s 19, s 20, s 21] w) s w) :=
  tr_simple (P := Tryd.prog) (codes := [(cd (Tryd.f4.body.getD .skip) [1, 1, 1, 0, 1, 0, 0, 0]), (cd (Tryd.f4.body.getD .skip) [1, 1, 1, 0, 1, 0, 0, 1, 0])]) (N := (fun s w => s4_p22 K B1 (s 3) (s 19) (s 20) (s 21) w)) (N' := (s4_p22_den K (fun s w => B1 [s 3, s 19, s 20, s 21] w))) (X := (fun i => (bif Nat.beq i 0 then (fun s w => s4_p1 K w) else (fun _ _ => False)))) (X' := (fun i => (bif Nat.beq i 0 then (s4_p1_den K) else (fun _ _ => False)))) (R := s4_R K) (s := s) (w := w) (p := s4_p23 K B1 (s 3) (s 19) (s 20) (s 21) w) (q := s4_p23_den K (fun s w => B1 [s 3, s 19, s 20, s 21] w) s w) (fun s w h => s4_p22_ok K B1 s w @h) (fun i => (tr_bif (fun s w h => s4_p1_ok K s w @h) tr_id)) (by kernel_rfl) (by kernel_rfl) @h
def s4_p24_F (K : Value → World → Prop) (B1 : List Value → World → Prop) (l : List Value) (w : World) : Prop :=
  match l with
  | [t3, t19, t20, t21] => s4_p23 K B1 t3 t19 t20 t21 w
  | _ => False
theorem s4_p24_Fe {K : Value → World → Prop} {B1 : List Value → World → Prop} {t3 t19 t20 t21 : Value} {w : World} : s4_p24_F K B1 [t3, t19, t20, t21] w = s4_p23 K B1 t3 t19 t20 t21 w := by kernel_rfl
def s4_p24 (K : Value → World → Prop) (t3 t19 t20 t21 : Value) (w : World) : Prop :=
  LoopL (s4_p24_F K) [t3, t19, t20, t21] w
def s4_p24_den (K : Value → World → Prop) : (Nat → Value) → World → Prop := fun s w => LoopP (fun M1 s w => s4_p23_den K M1 s w) s w
theorem s4_p24_ok (K : Value → World → Prop) (s : Nat → Value) (w : World) (h : s4_p24 K (s 3) (s 19) (s 20) (s 21) w) : Tr (s4_p24_den K s w) :=
  tr_loop (G := fun N' s w => s4_p23_den K N' s w) (F := s4_p24_F K) (sel := fun s => [s 3, s 19, s 20, s 21]) (s := s) (w := w) (p := s4_p24 K (s 3) (s 19) (s 20) (s 21) w) (q := s4_p24_den K s w) (fun B s w h => s4_p23_ok K B s w @h) (by kernel_rfl) (by kernel_rfl) @h
def s4_p25 (K : Value → World → Prop) (t0 : Value) (w : World) : Prop :=
  cl Tryd.prog 11 #[t0] (fun t16 w =>
  un .not t16 (fun t17 w =>
  ifb t17
  (K (.bool true) w)
  (cl Tryd.prog 12 #[] (fun t18 w =>
  lnS t0 (fun t20 w =>
  s4_p24 K t18 t0 t20 (.int .i64 0) w) w) w)) w) w
def s4_p25_den (K : Value → World → Prop) : (Nat → Value) → World → Prop := denL Tryd.prog [(cd (Tryd.f4.body.getD .skip) [0]), (cd (Tryd.f4.body.getD .skip) [1, 0, 0]), (cd (Tryd.f4.body.getD .skip) [1, 0, 1]), (cd (Tryd.f4.body.getD .skip) [1, 1, 0]), (cd (Tryd.f4.body.getD .skip) [1, 1, 1, 0, 0])] (s4_p24_den K) (fun i => (fun _ _ => False)) (s4_R K)
theorem s4_p25_ok (K : Value → World → Prop) (s : Nat → Value) (w : World) (h : s4_p25 K (s 0) w) : Tr (s4_p25_den K s w) :=
  tr_simple (P := Tryd.prog) (codes := [(cd (Tryd.f4.body.getD .skip) [0]), (cd (Tryd.f4.body.getD .skip) [1, 0, 0]), (cd (Tryd.f4.body.getD .skip) [1, 0, 1]), (cd (Tryd.f4.body.getD .skip) [1, 1, 0]), (cd (Tryd.f4.body.getD .skip) [1, 1, 1, 0, 0])]) (N := (fun s w => s4_p24 K (s 3) (s 19) (s 20) (s 21) w)) (N' := (s4_p24_den K)) (X := (fun i => (fun _ _ => False))) (X' := (fun i => (fun _ _ => False))) (R := s4_R K) (s := s) (w := w) (p := s4_p25 K (s 0) w) (q := s4_p25_den K s w) (fun s w h => s4_p24_ok K s w @h) (fun i => tr_id) (by kernel_rfl) (by kernel_rfl) @h
/-- the call, from the text -/
theorem c4 (t0 : Value) {K : Value → World → Prop} {w : World} (h : s4_p25 K t0 w) : cl Tryd.prog 4 #[t0] K w :=
  calls_of_tr (c := (Tryd.f4.body.getD .skip)) (fn := Tryd.f4) (q := s4_p25_den K (st0 #[t0]) w) Tryd.func4 (by kernel_rfl) (by kernel_rfl) (Nat.le_of_ble_eq_true (by kernel_rfl)) (by kernel_rfl) (by kernel_rfl) (s4_p25_ok K (st0 #[t0]) w @h)

/-! ### function 5 : e2e.poollaw.BoundedCost -/
def s5_R (K : Value → World → Prop) (s : Nat → Value) (w : World) : Prop := retv Tryd.prog s Tryd.f5.results.toList (fun vs => K (pack vs) w) w
def s5_p1 (K : Value → World → Prop) (w : World) : Prop :=
  K (.bool true) w
def s5_p1_den (K : Value → World → Prop) : (Nat → Value) → World → Prop := denL Tryd.prog [(cd (Tryd.f5.body.getD .skip) [1, 1, 1, 1, 0]), (cd (Tryd.f5.body.getD .skip) [1, 1, 1, 1, 1])] (fun _ _ => False) (fun i => (fun _ _ => False)) (s5_R K)
theorem s5_p1_ok (K : Value → World → Prop) (s : Nat → Value) (w : World) (h : s5_p1 K w) : Tr (s5_p1_den K s w) :=
  tr_simple (P := Tryd.prog) (codes := [(cd (Tryd.f5.body.getD .skip) [1, 1, 1, 1, 0]), (cd (Tryd.f5.body.getD .skip) [1, 1, 1, 1, 1])]) (N := (fun _ _ => False)) (N' := (fun _ _ => False)) (X := (fun i => (fun _ _ => False))) (X' := (fun i => (fun _ _ => False))) (R := s5_R K) (s := s) (w := w) (p := s5_p1 K w) (q := s5_p1_den K s w) tr_id (fun i => tr_id) (by kernel_rfl) (by kernel_rfl) @h
def s5_p2 (K : Value → World → Prop) (B1 : List Value → World → Prop) (t3 t11 t12 t13 : Value) (w : World) : Prop :=
  boI .add t13 (.int .i64 1) (fun t31 w =>
  B1 [t3, t11, t12, t31] w) w
def s5_p2_den (K : Value → World → Prop) (M1 : (Nat → Value) → World → Prop) : (Nat → Value) → World → Prop := denL Tryd.prog [(cd (Tryd.f5.body.getD .skip) [1, 1, 1, 0, 1, 0, 0, 1, 1, 1])] M1 (fun i => (bif Nat.beq i 0 then (s5_p1_den K) else (fun _ _ => False))) (s5_R K)
theorem s5_p2_ok (K : Value → World → Prop) (B1 : List Value → World → Prop) (s : Nat → Value) (w : World) (h : s5_p2 K B1 (s 3) (s 11) (s 12) (s 13) w) : Tr (s5_p2_den K (fun s w => B1 [s 3, s 11, s 12, s 13] w) s w) :=
  tr_simple (P := Tryd.prog) (codes := [(cd (Tryd.f5.body.getD .skip) [1, 1, 1, 0, 1, 0, 0, 1, 1, 1])]) (N := (fun s w => B1 [s 3, s 11, s 12, s 13] w)) (N' := (fun s w => B1 [s 3, s 11, s 12, s 13] w)) (X := (fun i => (bif Nat.beq i 0 then (fun s w => s5_p1 K w) else (fun _ _ => False)))) (X' := (fun i => (bif Nat.beq i 0 then (s5_p1_den K) else (fun _ _ => False)))) (R := s5_R K) (s := s) (w := w) (p := s5_p2 K B1 (s 3) (s 11) (s 12) (s 13) w) (q := s5_p2_den K (fun s w => B1 [s 3, s 11, s 12, s 13] w) s w) tr_id (fun i => (tr_bif (fun s w h => s5_p1_ok K s w @h) tr_id)) (by kernel_rfl) (by kernel_rfl) @h
def s5_p3 (K : Value → World → Prop) (B1 : List Value → World → Prop) (t3 t11 t12 t13 t30 : Value) (w : World) : Prop :=
  ifb t30
  (K (.bool false) w)
  (s5_p2 K B1 t3 t11 t12 t13 w)
def s5_p3_den (K : Value → World → Prop) (M1 : (Nat → Value) → World → Prop) : (Nat → Value) → World → Prop := denL Tryd.prog [(cd (Tryd.f5.body.getD .skip) [1, 1, 1, 0, 1, 0, 0, 1, 1, 0, 0, 1, 1, 1, 1])] (s5_p2_den K M1) (fun i => (bif Nat.beq i 1 then (s5_p2_den K M1) else (bif Nat.beq i 0 then (s5_p1_den K) else (fun _ _ => False)))) (s5_R K)
theorem s5_p3_ok (K : Value → World → Prop) (B1 : List Value → World → Prop) (s : Nat → Value) (w : World) (h : s5_p3 K B1 (s 3) (s 11) (s 12) (s 13) (s 30) w) : Tr (s5_p3_den K (fun s w => B1 [s 3, s 11, s 12, s 13] w) s w) :=
  tr_simple (P := Tryd.prog) (codes := [(cd (Tryd.f5.body.getD .skip) [1, 1, 1, 0, 1, 0, 0, 1, 1, 0, 0, 1, 1, 1, 1])]) (N := (fun s w => s5_p2 K B1 (s 3) (s 11) (s 12) (s 13) w)) (N' := (s5_p2_den K (fun s w => B1 [s 3, s 11, s 12, s 13] w))) (X := (fun i => (bif Nat.beq i 1 then (fun s w => s5_p2 K B1 (s 3) (s 11) (s 12) (s 13) w) else (bif Nat.beq i 0 then (fun s w => s5_p1 K w) else (fun _ _ => False))))) (X' := (fun i => (bif Nat.beq i 1 then (s5_p2_den K (fun s w => B1 [s 3, s 11, s 12, s 13] w)) else (bif Nat.beq i 0 then (s5_p1_den K) else (fun _ _ => False))))) (R := s5_R K) (s := s) (w := w) (p := s5_p3 K B1 (s 3) (s 11) (s 12) (s 13) (s 30) w) (q := s5_p3_den K (fun s w => B1 [s 3, s 11, s 12, s 13] w) s w) (fun s w h => s5_p2_ok K B1 s w @h) (fun i => (tr_bif (fun s w h => s5_p2_ok K B1 s w @h) (tr_bif (fun s w h => s5_p1_ok K s w @h) tr_id))) (by kernel_rfl) (by kernel_rfl) @h
def s5_p4_d (K : Value → World → Prop) (B1 : List Value → World → Prop) (J : World → Prop) (t3 t6 t11 t12 t13 : Value) (w0 w : World) : Prop :=
  fd 0 t6 (fun t23 _ =>
  Go.Sh.R.qw J (ld1 t23) (fun t24 =>
  Go.Sh.R.qw J (ldn 6 t6) (fun t26 =>
  cl Tryd.prog 14 #[t3, t26] (fun t27 w =>
  J w ∧
  fi Tryd.prog 41 t27 4 (fun t28 w =>
  J w ∧
  cl Tryd.prog 20 #[t24, t28] (fun t29 w =>
  un .not t29 (fun t30 w =>
  s5_p3 K B1 t3 t11 t12 t13 t30 w) w) w) w) w))) w0
def s5_p4 (K : Value → World → Prop) (B1 : List Value → World → Prop) (t3 t6 t11 t12 t13 : Value) (w : World) : Prop := ∃ J : World → Prop, J (drw w) ∧ s5_p4_d K B1 J t3 t6 t11 t12 t13 (drw w) (drw w)
def s5_p4_den (K : Value → World → Prop) (M1 : (Nat → Value) → World → Prop) : (Nat → Value) → World → Prop := denL Tryd.prog [(cd (Tryd.f5.body.getD .skip) [1, 1, 1, 0, 1, 0, 0, 1, 1, 0, 0, 1, 1, 1, 0])] (s5_p3_den K M1) (fun i => (bif Nat.beq i 1 then (s5_p2_den K M1) else (bif Nat.beq i 0 then (s5_p1_den K) else (fun _ _ => False)))) (s5_R K)
theorem s5_p4_ok (K : Value → World → Prop) (B1 : List Value → World → Prop) (s : Nat → Value) (w : World) (h : s5_p4 K B1 (s 3) (s 6) (s 11) (s 12) (s 13) w) : Tr (s5_p4_den K (fun s w => B1 [s 3, s 11, s 12, s 13] w) s w) :=
  Go.Sh.R.tr_drawR (P := Tryd.prog) (ops := (ro (cd (Tryd.f5.body.getD .skip) [1, 1, 1, 0, 1, 0, 0, 1, 1, 0, 0, 1, 1, 1, 0]))) (ms := [0, 1, 0, 0, 12, 28, 63, 127]) (cs := [0, 1, 2, 3]) (N := (fun s w => s5_p3 K B1 (s 3) (s 11) (s 12) (s 13) (s 30) w)) (N' := (s5_p3_den K (fun s w => B1 [s 3, s 11, s 12, s 13] w))) (s := s) (w := w) (p := fun J => s5_p4_d K B1 J (s 3) (s 6) (s 11) (s 12) (s 13) (drw w) (drw w)) (q := s5_p4_den K (fun s w => B1 [s 3, s 11, s 12, s 13] w) s w) (by kernel_rfl) (by kernel_rfl) (fun s w h => s5_p3_ok K B1 s w @h) (by kernel_rfl) (by kernel_rfl) @h
def s5_p5 (K : Value → World → Prop) (B1 : List Value → World → Prop) (t3 t11 t12 t13 : Value) (w : World) : Prop :=
  ixs 4 t11 t13 (fun t15 w =>
  ldn 4 t15 (fun t16 w =>
  nw 28 #[(.int .u8 0), (.int .i64 0), (.int .i64 0), (.int .i64 0)] (fun t5 w =>
  stn 4 t5 t16 (fun w =>
  fd 0 t5 (fun t17 w =>
  ld1 t17 (fun t18 w =>
  boI .eql t18 (.int .u8 8) (fun t19 w =>
  ifb t19
  (s5_p2 K B1 t3 t11 t12 t13 w)
  (ldn 4 t5 (fun t21 w =>
  cl Tryd.prog 13 #[t3, t21] (fun t22 w =>
  nw 33 #[(.int .u8 0), (.int .i64 0), (.int .u32 0), (.int .i64 0), (.int .i64 0), (.int .i64 0)] (fun t6 w =>
  stn 6 t6 t22 (fun w =>
  s5_p4 K B1 t3 t6 t11 t12 t13 w) w) w) w) w)) w) w) w) w) w) w) w
def s5_p5_den (K : Value → World → Prop) (M1 : (Nat → Value) → World → Prop) : (Nat → Value) → World → Prop := denL Tryd.prog [(cd (Tryd.f5.body.getD .skip) [1, 1, 1, 0, 1, 0, 0, 1, 1, 0, 0, 0]), (cd (Tryd.f5.body.getD .skip) [1, 1, 1, 0, 1, 0, 0, 1, 1, 0, 0, 1, 0, 0]), (cd (Tryd.f5.body.getD .skip) [1, 1, 1, 0, 1, 0, 0, 1, 1, 0, 0, 1, 0, 1]), (cd (Tryd.f5.body.getD .skip) [1, 1, 1, 0, 1, 0, 0, 1, 1, 0, 0, 1, 1, 0])] (s5_p4_den K M1) (fun i => (bif Nat.beq i 1 then (s5_p2_den K M1) else (bif Nat.beq i 0 then (s5_p1_den K) else (fun _ _ => False)))) (s5_R K)
theorem s5_p5_ok (K : Value → World → Prop) (B1 : List Value → World → Prop) (s : Nat → Value) (w : World) (h : s5_p5 K B1 (s 3) (s 11) (s 12) (s 13) w) : Tr (s5_p5_den K (fun s w => B1 [s 3, s 11, s 12, s 13] w) s w) :=
  tr_simple (P := Tryd.prog) (codes := [(cd (Tryd.f5.body.getD .skip) [1, 1, 1, 0, 1, 0, 0, 1, 1, 0, 0, 0]), (cd (Tryd.f5.body.getD .skip) [1, 1, 1, 0, 1, 0, 0, 1, 1, 0, 0, 1, 0, 0]), (cd (Tryd.f5.body.getD .skip) [1, 1, 1, 0, 1, 0, 0, 1, 1, 0, 0, 1, 0, 1]), (cd (Tryd.f5.body.getD .skip) [1, 1, 1, 0, 1, 0, 0, 1, 1, 0, 0, 1, 1, 0])]) (N := (fun s w => s5_p4 K B1 (s 3) (s 6) (s 11) (s 12) (s 13) w)) (N' := (s5_p4_den K (fun s w => B1 [s 3, s 11, s 12, s 13] w))) (X := (fun i => (bif Nat.beq i 1 then (fun s w => s5_p2 K B1 (s 3) (s 11) (s 12) (s 13) w) else (bif Nat.beq i 0 then (fun s w => s5_p1 K w) else (fun _ _ => False))))) (X' := (fun i => (bif Nat.beq i 1 then (s5_p2_den K (fun s w => B1 [s 3, s 11, s 12, s 13] w)) else (bif Nat.beq i 0 then (s5_p1_den K) else (fun _ _ => False))))) (R := s5_R K) (s := s) (w := w) (p := s5_p5 K B1 (s 3) (s 11) (s 12) (s 13) w) (q := s5_p5_den K (fun s w => B1 [s 3, s 11, s 12, s 13] w) s w) (fun s w h => s5_p4_ok K B1 s w @h) (fun i => (tr_bif (fun s w h => s5_p2_ok K B1 s w @h) (tr_bif (fun s w h => s5_p1_ok K s w @h) tr_id))) (by kernel_rfl) (by kernel_rfl) @h
def s5_p6 (K : Value → World → Prop) (B1 : List Value → World → Prop) (t3 t11 t12 t13 : Value) (w : World) : Prop :=
  boI .lss t13 t12 (fun t14 w =>
  ifb t14
  (s5_p5 K B1 t3 t11 t12 t13 w)
  (s5_p1 K w)) w
def s5_p6_den (K : Value → World → Prop) (M1 : (Nat → Value) → World → Prop) : (Nat → Value) → World → Prop := denL Tryd.prog [(cd (Tryd.f5.body.getD .skip) [1, 1, 1, 0, 1, 0, 0, 0]), (cd (Tryd.f5.body.getD .skip) [1, 1, 1, 0, 1, 0, 0, 1, 0])] (s5_p5_den K M1) (fun i => (bif Nat.beq i 0 then (s5_p1_den K) else (fun _ _ => False))) (s5_R K)
theorem s5_p6_ok (K : Value → World → Prop) (B1 : List Value → World → Prop) (s : Nat → Value) (w : World) (h : s5_p6 K B1 (s 3) (s 11) (s 12) (s 13) w) : Tr (s5_p6_den K (fun s w => B1 [s 3, s 11, s 12, s 13] w) s w) :=
  tr_simple (P := Tryd.prog) (codes := [(cd (Tryd.f5.body.getD .skip) [1, 1, 1, 0, 1, 0, 0, 0]), (cd (Tryd.f5.body.getD .skip) [1, 1, 1, 0, 1, 0, 0, 1, 0])]) (N := (fun s w => s5_p5 K B1 (s 3) (s 11) (s 12) (s 13) w)) (N' := (s5_p5_den K (fun s w => B1 [s 3, s 11, s 12, s 13] w))) (X := (fun i => (bif Nat.beq i 0 then (fun s w => s5_p1 K w) else (fun _ _ => False)))) (X' := (fun i => (bif Nat.beq i 0 then (s5_p1_den K) else (fun _ _ => False)))) (R := s5_R K) (s := s) (w := w) (p := s5_p6 K B1 (s 3) (s 11) (s 12) (s 13) w) (q := s5_p6_den K (fun s w => B1 [s 3, s 11, s 12, s 13] w) s w) (fun s w h => s5_p5_ok K B1 s w @h) (fun i => (tr_bif (fun s w h => s5_p1_ok K s w @h) tr_id)) (by kernel_rfl) (by kernel_rfl) @h
def s5_p7_F (K : Value → World → Prop) (B1 : List Value → World → Prop) (l : List Value) (w : World) : Prop :=
  match l with
  | [t3, t11, t12, t13] => s5_p6 K B1 t3 t11 t12 t13 w
  | _ => False
theorem s5_p7_Fe {K : Value → World → Prop} {B1 : List Value → World → Prop} {t3 t11 t12 t13 : Value} {w : World} : s5_p7_F K B1 [t3, t11, t12, t13] w = s5_p6 K B1 t3 t11 t12 t13 w := by kernel_rfl
def s5_p7 (K : Value → World → Prop) (t3 t11 t12 t13 : Value) (w : World) : Prop :=
  LoopL (s5_p7_F K) [t3, t11, t12, t13] w
def s5_p7_den (K : Value → World → Prop) : (Nat → Value) → World → Prop := fun s w => LoopP (fun M1 s w => s5_p6_den K M1 s w) s w
theorem s5_p7_ok (K : Value → World → Prop) (s : Nat → Value) (w : World) (h : s5_p7 K (s 3) (s 11) (s 12) (s 13) w) : Tr (s5_p7_den K s w) :=
  tr_loop (G := fun N' s w => s5_p6_den K N' s w) (F := s5_p7_F K) (sel := fun s => [s 3, s 11, s 12, s 13]) (s := s) (w := w) (p := s5_p7 K (s 3) (s 11) (s 12) (s 13) w) (q := s5_p7_den K s w) (fun B s w h => s5_p6_ok K B s w @h) (by kernel_rfl) (by kernel_rfl) @h
def s5_p8 (K : Value → World → Prop) (t0 : Value) (w : World) : Prop :=
  cl Tryd.prog 11 #[t0] (fun t8 w =>
  un .not t8 (fun t9 w =>
  ifb t9
  (K (.bool true) w)
  (cl Tryd.prog 12 #[] (fun t10 w =>
  lnS t0 (fun t12 w =>
  s5_p7 K t10 t0 t12 (.int .i64 0) w) w) w)) w) w
def s5_p8_den (K : Value → World → Prop) : (Nat → Value) → World → Prop := denL Tryd.prog [(cd (Tryd.f5.body.getD .skip) [0]), (cd (Tryd.f5.body.getD .skip) [1, 0, 0]), (cd (Tryd.f5.body.getD .skip) [1, 0, 1]), (cd (Tryd.f5.body.getD .skip) [1, 1, 0]), (cd (Tryd.f5.body.getD .skip) [1, 1, 1, 0, 0])] (s5_p7_den K) (fun i => (fun _ _ => False)) (s5_R K)
theorem s5_p8_ok (K : Value → World → Prop) (s : Nat → Value) (w : World) (h : s5_p8 K (s 0) w) : Tr (s5_p8_den K s w) :=
  tr_simple (P := Tryd.prog) (codes := [(cd (Tryd.f5.body.getD .skip) [0]), (cd (Tryd.f5.body.getD .skip) [1, 0, 0]), (cd (Tryd.f5.body.getD .skip) [1, 0, 1]), (cd (Tryd.f5.body.getD .skip) [1, 1, 0]), (cd (Tryd.f5.body.getD .skip) [1, 1, 1, 0, 0])]) (N := (fun s w => s5_p7 K (s 3) (s 11) (s 12) (s 13) w)) (N' := (s5_p7_den K)) (X := (fun i => (fun _ _ => False))) (X' := (fun i => (fun _ _ => False))) (R := s5_R K) (s := s) (w := w) (p := s5_p8 K (s 0) w) (q := s5_p8_den K s w) (fun s w h => s5_p7_ok K s w @h) (fun i => tr_id) (by kernel_rfl) (by kernel_rfl) @h
/-- the call, from the text -/
theorem c5 (t0 : Value) {K : Value → World → Prop} {w : World} (h : s5_p8 K t0 w) : cl Tryd.prog 5 #[t0] K w :=
  calls_of_tr (c := (Tryd.f5.body.getD .skip)) (fn := Tryd.f5) (q := s5_p8_den K (st0 #[t0]) w) Tryd.func5 (by kernel_rfl) (by kernel_rfl) (Nat.le_of_ble_eq_true (by kernel_rfl)) (by kernel_rfl) (by kernel_rfl) (s5_p8_ok K (st0 #[t0]) w @h)

/-! ### function 6 : e2e.poollaw.StaysInside -/
def s6_R (K : Value → World → Prop) (s : Nat → Value) (w : World) : Prop := retv Tryd.prog s Tryd.f6.results.toList (fun vs => K (pack vs) w) w
def s6_p1 (K : Value → World → Prop) (w : World) : Prop :=
  K (.bool true) w
def s6_p1_den (K : Value → World → Prop) : (Nat → Value) → World → Prop := denL Tryd.prog [(cd (Tryd.f6.body.getD .skip) [1, 1, 1, 1, 0]), (cd (Tryd.f6.body.getD .skip) [1, 1, 1, 1, 1])] (fun _ _ => False) (fun i => (fun _ _ => False)) (s6_R K)
theorem s6_p1_ok (K : Value → World → Prop) (s : Nat → Value) (w : World) (h : s6_p1 K w) : Tr (s6_p1_den K s w) :=
  tr_simple (P := Tryd.prog) (codes := [(cd (Tryd.f6.body.getD .skip) [1, 1, 1, 1, 0]), (cd (Tryd.f6.body.getD .skip) [1, 1, 1, 1, 1])]) (N := (fun _ _ => False)) (N' := (fun _ _ => False)) (X := (fun i => (fun _ _ => False))) (X' := (fun i => (fun _ _ => False))) (R := s6_R K) (s := s) (w := w) (p := s6_p1 K w) (q := s6_p1_den K s w) tr_id (fun i => tr_id) (by kernel_rfl) (by kernel_rfl) @h
def s6_p2 (K : Value → World → Prop) (B1 : List Value → World → Prop) (t3 t28 t29 t30 : Value) (w : World) : Prop :=
  boI .add t30 (.int .i64 1) (fun t249 w =>
  B1 [t3, t28, t29, t249] w) w
def s6_p2_den (K : Value → World → Prop) (M1 : (Nat → Value) → World → Prop) : (Nat → Value) → World → Prop := denL Tryd.prog [(cd (Tryd.f6.body.getD .skip) [1, 1, 1, 0, 1, 0, 0, 1, 1, 1])] M1 (fun i => (bif Nat.beq i 0 then (s6_p1_den K) else (fun _ _ => False))) (s6_R K)
theorem s6_p2_ok (K : Value → World → Prop) (B1 : List Value → World → Prop) (s : Nat → Value) (w : World) (h : s6_p2 K B1 (s 3) (s 28) (s 29) (s 30) w) : Tr (s6_p2_den K (fun s w => B1 [s 3, s 28, s 29, s 30] w) s w) :=
  tr_simple (P := Tryd.prog) (codes := [(cd (Tryd.f6.body.getD .skip) [1, 1, 1, 0, 1, 0, 0, 1, 1, 1])]) (N := (fun s w => B1 [s 3, s 28, s 29, s 30] w)) (N' := (fun s w => B1 [s 3, s 28, s 29, s 30] w)) (X := (fun i => (bif Nat.beq i 0 then (fun s w => s6_p1 K w) else (fun _ _ => False)))) (X' := (fun i => (bif Nat.beq i 0 then (s6_p1_den K) else (fun _ _ => False)))) (R := s6_R K) (s := s) (w := w) (p := s6_p2 K B1 (s 3) (s 28) (s 29) (s 30) w) (q := s6_p2_den K (fun s w => B1 [s 3, s 28, s 29, s 30] w) s w) tr_id (fun i => (tr_bif (fun s w h => s6_p1_ok K s w @h) tr_id)) (by kernel_rfl) (by kernel_rfl) @h
def s6_p3 (K : Value → World → Prop) (B1 : List Value → World → Prop) (B2 : List Value → World → Prop) (t3 t8 t14 t16 t17 t28 t29 t30 : Value) (w : World) : Prop :=
  fd 1 t8 (fun t158 w =>
  ld1 t158 (fun t159 w =>
  boI .lss t17 t159 (fun t160 w =>
  ifb t160
  (nck t3 (fun t165 w =>
  fd 1 t165 (fun t166 w =>
  ld1 t166 (fun t167 w =>
  cl Tryd.prog 22 #[t167, t17] (fun t169 w =>
  exq t169 0 (fun t170 w =>
  exq t169 1 (fun t171 w =>
  nw 68 #[(.int .u32 0), (.int .u32 0), (.int .u32 0)] (fun t18 w =>
  stn 3 t18 t170 (fun w =>
  fd 0 t14 (fun t172 w =>
  ld1 t172 (fun t173 w =>
  fd 0 t18 (fun t174 w =>
  ld1 t174 (fun t175 w =>
  fd 2 t18 (fun t176 w =>
  ld1 t176 (fun t177 w =>
  fd 1 t18 (fun t178 w =>
  ld1 t178 (fun t179 w =>
  boI .mul t177 t179 (fun t180 w =>
  boI .add t175 t180 (fun t181 w =>
  boI .lss t173 t181 (fun t182 w =>
  gd t182 true (fd 0 t18) (fun t184 w =>
  gd t182 true (ld1 t184) (fun t185 w =>
  gd t182 true (fun K w => K t16 w) (fun t186 w =>
  gd t182 true (boI .lss t185 t186) (fun t187 w =>
  pk t182 t187 (.bool false) (fun t188 w =>
  ifb t188
  (K (.bool false) w)
  (boI .add t17 (.int .i64 1) (fun t162 w =>
  B2 [t3, t8, t14, t16, t162, t28, t29, t30] w) w)) w) w) w) w) w) w) w) w) w) w) w) w) w) w) w) w) w) w) w) w) w) w) w) w)
  (s6_p2 K B1 t3 t28 t29 t30 w)) w) w) w
def s6_p3_den (K : Value → World → Prop) (M1 : (Nat → Value) → World → Prop) (M2 : (Nat → Value) → World → Prop) : (Nat → Value) → World → Prop := denL Tryd.prog [(cd (Tryd.f6.body.getD .skip) [1, 1, 1, 0, 1, 0, 0, 1, 1, 0, 0, 1, 1, 1, 1, 1, 1, 1, 1, 1, 0, 1, 0, 1, 1, 1, 1, 0, 0, 0, 0]), (cd (Tryd.f6.body.getD .skip) [1, 1, 1, 0, 1, 0, 0, 1, 1, 0, 0, 1, 1, 1, 1, 1, 1, 1, 1, 1, 0, 1, 0, 1, 1, 1, 1, 0, 0, 0, 1]), (cd (Tryd.f6.body.getD .skip) [1, 1, 1, 0, 1, 0, 0, 1, 1, 0, 0, 1, 1, 1, 1, 1, 1, 1, 1, 1, 0, 1, 0, 1, 1, 1, 1, 0, 0, 1, 0]), (cd (Tryd.f6.body.getD .skip) [1, 1, 1, 0, 1, 0, 0, 1, 1, 0, 0, 1, 1, 1, 1, 1, 1, 1, 1, 1, 0, 1, 0, 1, 1, 1, 1, 0, 0, 1, 1])] M2 (fun i => (bif Nat.beq i 7 then (s6_p2_den K M1) else (bif Nat.beq i 6 then (s6_p2_den K M1) else (bif Nat.beq i 1 then (s6_p2_den K M1) else (bif Nat.beq i 0 then (s6_p1_den K) else (fun _ _ => False)))))) (s6_R K)
theorem s6_p3_ok (K : Value → World → Prop) (B1 : List Value → World → Prop) (B2 : List Value → World → Prop) (s : Nat → Value) (w : World) (h : s6_p3 K B1 B2 (s 3) (s 8) (s 14) (s 16) (s 17) (s 28) (s 29) (s 30) w) : Tr (s6_p3_den K (fun s w => B1 [s 3, s 28, s 29, s 30] w) (fun s w => B2 [s 3, s 8, s 14, s 16, s 17, s 28, s 29, s 30] w) s w) :=
  tr_simple (P := Tryd.prog) (codes := [(cd (Tryd.f6.body.getD .skip) [1, 1, 1, 0, 1, 0, 0, 1, 1, 0, 0, 1, 1, 1, 1, 1, 1, 1, 1, 1, 0, 1, 0, 1, 1, 1, 1, 0, 0, 0, 0]), (cd (Tryd.f6.body.getD .skip) [1, 1, 1, 0, 1, 0, 0, 1, 1, 0, 0, 1, 1, 1, 1, 1, 1, 1, 1, 1, 0, 1, 0, 1, 1, 1, 1, 0, 0, 0, 1]), (cd (Tryd.f6.body.getD .skip) [1, 1, 1, 0, 1, 0, 0, 1, 1, 0, 0, 1, 1, 1, 1, 1, 1, 1, 1, 1, 0, 1, 0, 1, 1, 1, 1, 0, 0, 1, 0]), (cd (Tryd.f6.body.getD .skip) [1, 1, 1, 0, 1, 0, 0, 1, 1, 0, 0, 1, 1, 1, 1, 1, 1, 1, 1, 1, 0, 1, 0, 1, 1, 1, 1, 0, 0, 1, 1])]) (N := (fun s w => B2 [s 3, s 8, s 14, s 16, s 17, s 28, s 29, s 30] w)) (N' := (fun s w => B2 [s 3, s 8, s 14, s 16, s 17, s 28, s 29, s 30] w)) (X := (fun i => (bif Nat.beq i 7 then (fun s w => s6_p2 K B1 (s 3) (s 28) (s 29) (s 30) w) else (bif Nat.beq i 6 then (fun s w => s6_p2 K B1 (s 3) (s 28) (s 29) (s 30) w) else (bif Nat.beq i 1 then (fun s w => s6_p2 K B1 (s 3) (s 28) (s 29) (s 30) w) else (bif Nat.beq i 0 then (fun s w => s6_p1 K w) else (fun _ _ => False))))))) (X' := (fun i => (bif Nat.beq i 7 then (s6_p2_den K (fun s w => B1 [s 3, s 28, s 29, s 30] w)) else (bif Nat.beq i 6 then (s6_p2_den K (fun s w => B1 [s 3, s 28, s 29, s 30] w)) else (bif Nat.beq i 1 then (s6_p2_den K (fun s w => B1 [s 3, s 28, s 29, s 30] w)) else (bif Nat.beq i 0 then (s6_p1_den K) else (fun _ _ => False))))))) (R := s6_R K) (s := s) (w := w) (p := s6_p3 K B1 B2 (s 3) (s 8) (s 14) (s 16) (s 17) (s 28) (s 29) (s 30) w) (q := s6_p3_den K (fun s w => B1 [s 3, s 28, s 29, s 30] w) (fun s w => B2 [s 3, s 8, s 14, s 16, s 17, s 28, s 29, s 30] w) s w) tr_id (fun i => (tr_bif (fun s w h => s6_p2_ok K B1 s w @h) (tr_bif (fun s w h => s6_p2_ok K B1 s w @h) (tr_bif (fun s w h => s6_p2_ok K B1 s w @h) (tr_bif (fun s w h => s6_p1_ok K s w @h) tr_id))))) (by kernel_rfl) (by kernel_rfl) @h
def s6_p4_F (K : Value → World → Prop) (B1 : List Value → World → Prop) (B2 : List Value → World → Prop) (l : List Value) (w : World) : Prop :=
  match l with
  | [t3, t8, t14, t16, t17, t28, t29, t30] => s6_p3 K B1 B2 t3 t8 t14 t16 t17 t28 t29 t30 w
  | _ => False
theorem s6_p4_Fe {K : Value → World → Prop} {B1 : List Value → World → Prop} {B2 : List Value → World → Prop} {t3 t8 t14 t16 t17 t28 t29 t30 : Value} {w : World} : s6_p4_F K B1 B2 [t3, t8, t14, t16, t17, t28, t29, t30] w = s6_p3 K B1 B2 t3 t8 t14 t16 t17 t28 t29 t30 w := by kernel_rfl
def s6_p4 (K : Value → World → Prop) (B1 : List Value → World → Prop) (t3 t8 t14 t16 t17 t28 t29 t30 : Value) (w : World) : Prop :=
  LoopL (s6_p4_F K B1) [t3, t8, t14, t16, t17, t28, t29, t30] w
def s6_p4_den (K : Value → World → Prop) (M1 : (Nat → Value) → World → Prop) : (Nat → Value) → World → Prop := fun s w => LoopP (fun M2 s w => s6_p3_den K M1 M2 s w) s w
theorem s6_p4_ok (K : Value → World → Prop) (B1 : List Value → World → Prop) (s : Nat → Value) (w : World) (h : s6_p4 K B1 (s 3) (s 8) (s 14) (s 16) (s 17) (s 28) (s 29) (s 30) w) : Tr (s6_p4_den K (fun s w => B1 [s 3, s 28, s 29, s 30] w) s w) :=
  tr_loop (G := fun N' s w => s6_p3_den K (fun s w => B1 [s 3, s 28, s 29, s 30] w) N' s w) (F := s6_p4_F K B1) (sel := fun s => [s 3, s 8, s 14, s 16, s 17, s 28, s 29, s 30]) (s := s) (w := w) (p := s6_p4 K B1 (s 3) (s 8) (s 14) (s 16) (s 17) (s 28) (s 29) (s 30) w) (q := s6_p4_den K (fun s w => B1 [s 3, s 28, s 29, s 30] w) s w) (fun B s w h => s6_p3_ok K B1 B s w @h) (by kernel_rfl) (by kernel_rfl) @h
def s6_p5 (K : Value → World → Prop) (B1 : List Value → World → Prop) (t3 t8 t14 t28 t29 t30 : Value) (w : World) : Prop :=
  fd 0 t14 (fun t131 w =>
  ld1 t131 (fun t132 w =>
  fd 2 t14 (fun t133 w =>
  ld1 t133 (fun t134 w =>
  fd 1 t14 (fun t135 w =>
  ld1 t135 (fun t136 w =>
  boI .mul t134 t136 (fun t137 w =>
  boI .add t132 t137 (fun t138 w =>
  fd 0 t14 (fun t140 w =>
  ld1 t140 (fun t141 w =>
  cl Tryd.prog 21 #[t3, t141] (fun t142 w =>
  un .not t142 (fun t143 w =>
  gd t143 false (fun K w => K t3 w) (fun t145 w =>
  gd t143 false (fun K w => K t138 w) (fun t146 w =>
  gd t143 false (boI .sub t146 (.int .u32 1)) (fun t147 w =>
  gd t143 false (cl Tryd.prog 21 #[t145, t147]) (fun t148 w =>
  gd t143 false (un .not t148) (fun t149 w =>
  pk t143 (.bool true) t149 (fun t150 w =>
  gd t150 false (fun K w => K t138 w) (fun t152 w =>
  gd t150 false (fd 0 t14) (fun t153 w =>
  gd t150 false (ld1 t153) (fun t154 w =>
  gd t150 false (boI .leq t152 t154) (fun t155 w =>
  pk t150 (.bool true) t155 (fun t156 w =>
  ifb t156
  (K (.bool false) w)
  (s6_p4 K B1 t3 t8 t14 t138 (.int .i64 0) t28 t29 t30 w)) w) w) w) w) w) w) w) w) w) w) w) w) w) w) w) w) w) w) w) w) w) w) w
def s6_p5_den (K : Value → World → Prop) (M1 : (Nat → Value) → World → Prop) : (Nat → Value) → World → Prop := denL Tryd.prog [(cd (Tryd.f6.body.getD .skip) [1, 1, 1, 0, 1, 0, 0, 1, 1, 0, 0, 1, 1, 1, 1, 1, 1, 1, 1, 1, 0, 1, 0, 1, 0]), (cd (Tryd.f6.body.getD .skip) [1, 1, 1, 0, 1, 0, 0, 1, 1, 0, 0, 1, 1, 1, 1, 1, 1, 1, 1, 1, 0, 1, 0, 1, 1, 0, 0]), (cd (Tryd.f6.body.getD .skip) [1, 1, 1, 0, 1, 0, 0, 1, 1, 0, 0, 1, 1, 1, 1, 1, 1, 1, 1, 1, 0, 1, 0, 1, 1, 0, 1]), (cd (Tryd.f6.body.getD .skip) [1, 1, 1, 0, 1, 0, 0, 1, 1, 0, 0, 1, 1, 1, 1, 1, 1, 1, 1, 1, 0, 1, 0, 1, 1, 1, 0])] (s6_p4_den K M1) (fun i => (bif Nat.beq i 6 then (s6_p2_den K M1) else (bif Nat.beq i 1 then (s6_p2_den K M1) else (bif Nat.beq i 0 then (s6_p1_den K) else (fun _ _ => False))))) (s6_R K)
theorem s6_p5_ok (K : Value → World → Prop) (B1 : List Value → World → Prop) (s : Nat → Value) (w : World) (h : s6_p5 K B1 (s 3) (s 8) (s 14) (s 28) (s 29) (s 30) w) : Tr (s6_p5_den K (fun s w => B1 [s 3, s 28, s 29, s 30] w) s w) :=
  tr_simple (P := Tryd.prog) (codes := [(cd (Tryd.f6.body.getD .skip) [1, 1, 1, 0, 1, 0, 0, 1, 1, 0, 0, 1, 1, 1, 1, 1, 1, 1, 1, 1, 0, 1, 0, 1, 0]), (cd (Tryd.f6.body.getD .skip) [1, 1, 1, 0, 1, 0, 0, 1, 1, 0, 0, 1, 1, 1, 1, 1, 1, 1, 1, 1, 0, 1, 0, 1, 1, 0, 0]), (cd (Tryd.f6.body.getD .skip) [1, 1, 1, 0, 1, 0, 0, 1, 1, 0, 0, 1, 1, 1, 1, 1, 1, 1, 1, 1, 0, 1, 0, 1, 1, 0, 1]), (cd (Tryd.f6.body.getD .skip) [1, 1, 1, 0, 1, 0, 0, 1, 1, 0, 0, 1, 1, 1, 1, 1, 1, 1, 1, 1, 0, 1, 0, 1, 1, 1, 0])]) (N := (fun s w => s6_p4 K B1 (s 3) (s 8) (s 14) (s 16) (s 17) (s 28) (s 29) (s 30) w)) (N' := (s6_p4_den K (fun s w => B1 [s 3, s 28, s 29, s 30] w))) (X := (fun i => (bif Nat.beq i 6 then (fun s w => s6_p2 K B1 (s 3) (s 28) (s 29) (s 30) w) else (bif Nat.beq i 1 then (fun s w => s6_p2 K B1 (s 3) (s 28) (s 29) (s 30) w) else (bif Nat.beq i 0 then (fun s w => s6_p1 K w) else (fun _ _ => False)))))) (X' := (fun i => (bif Nat.beq i 6 then (s6_p2_den K (fun s w => B1 [s 3, s 28, s 29, s 30] w)) else (bif Nat.beq i 1 then (s6_p2_den K (fun s w => B1 [s 3, s 28, s 29, s 30] w)) else (bif Nat.beq i 0 then (s6_p1_den K) else (fun _ _ => False)))))) (R := s6_R K) (s := s) (w := w) (p := s6_p5 K B1 (s 3) (s 8) (s 14) (s 28) (s 29) (s 30) w) (q := s6_p5_den K (fun s w => B1 [s 3, s 28, s 29, s 30] w) s w) (fun s w h => s6_p4_ok K B1 s w @h) (fun i => (tr_bif (fun s w h => s6_p2_ok K B1 s w @h) (tr_bif (fun s w h => s6_p2_ok K B1 s w @h) (tr_bif (fun s w h => s6_p1_ok K s w @h) tr_id)))) (by kernel_rfl) (by kernel_rfl) @h
def s6_p6_d (K : Value → World → Prop) (B1 : List Value → World → Prop) (J : World → Prop) (t3 t8 t28 t29 t30 : Value) (w0 w : World) : Prop :=
  nck t3 (fun t123 _ =>
  fd 1 t123 (fun t124 _ =>
  Go.Sh.R.qw J (ld1 t124) (fun t125 =>
  fd 1 t8 (fun t126 _ =>
  Go.Sh.R.qw J (ld1 t126) (fun t127 =>
  (cl Tryd.prog 22 #[t125, t127] (fun t128 w =>
  ((exq t128 0 (fun t129 w =>
  (exq t128 1 (fun t130 w =>
  nw 68 #[(.int .u32 0), (.int .u32 0), (.int .u32 0)] (fun t14 w =>
  J w ∧
  stn 3 t14 t129 (fun w =>
  s6_p5 K B1 t3 t8 t14 t28 t29 t30 w) w) w) w) ∧
  (nw 68 #[(.int .u32 0), (.int .u32 0), (.int .u32 0)] (fun t14_2 w =>
  J w ∧
  (exq t128 1 (fun t130_2 w =>
  stn 3 t14_2 t129 (fun w =>
  s6_p5 K B1 t3 t8 t14_2 t28 t29 t30 w) w) w) ∧
  (stn 3 t14_2 t129 (fun w =>
  exq t128 1 (fun t130_3 w =>
  s6_p5 K B1 t3 t8 t14_2 t28 t29 t30 w) w) w)) w)) w) ∧
  (exq t128 1 (fun t130_4 w =>
  (exq t128 0 (fun t129_2 w =>
  nw 68 #[(.int .u32 0), (.int .u32 0), (.int .u32 0)] (fun t14_3 w =>
  J w ∧
  stn 3 t14_3 t129_2 (fun w =>
  s6_p5 K B1 t3 t8 t14_3 t28 t29 t30 w) w) w) w) ∧
  (nw 68 #[(.int .u32 0), (.int .u32 0), (.int .u32 0)] (fun t14_4 w =>
  J w ∧
  exq t128 0 (fun t129_3 w =>
  stn 3 t14_4 t129_3 (fun w =>
  s6_p5 K B1 t3 t8 t14_4 t28 t29 t30 w) w) w) w)) w) ∧
  (nw 68 #[(.int .u32 0), (.int .u32 0), (.int .u32 0)] (fun t14_5 w =>
  J w ∧
  (exq t128 0 (fun t129_4 w =>
  (exq t128 1 (fun t130_5 w =>
  stn 3 t14_5 t129_4 (fun w =>
  s6_p5 K B1 t3 t8 t14_5 t28 t29 t30 w) w) w) ∧
  (stn 3 t14_5 t129_4 (fun w =>
  exq t128 1 (fun t130_6 w =>
  s6_p5 K B1 t3 t8 t14_5 t28 t29 t30 w) w) w)) w) ∧
  (exq t128 1 (fun t130_7 w =>
  exq t128 0 (fun t129_5 w =>
  stn 3 t14_5 t129_5 (fun w =>
  s6_p5 K B1 t3 t8 t14_5 t28 t29 t30 w) w) w) w)) w)) ∧
  (nw 68 #[(.int .u32 0), (.int .u32 0), (.int .u32 0)] (fun t14_6 w =>
  J w ∧
  (exq t128 0 (fun t129_6 w =>
  (exq t128 1 (fun t130_8 w =>
  stn 3 t14_6 t129_6 (fun w =>
  s6_p5 K B1 t3 t8 t14_6 t28 t29 t30 w) w) w) ∧
  (stn 3 t14_6 t129_6 (fun w =>
  exq t128 1 (fun t130_9 w =>
  s6_p5 K B1 t3 t8 t14_6 t28 t29 t30 w) w) w)) w) ∧
  (exq t128 1 (fun t130_10 w =>
  exq t128 0 (fun t129_7 w =>
  stn 3 t14_6 t129_7 (fun w =>
  s6_p5 K B1 t3 t8 t14_6 t28 t29 t30 w) w) w) w)) w)) w) ∧
  (nw 68 #[(.int .u32 0), (.int .u32 0), (.int .u32 0)] (fun t14_7 w =>
  J w ∧
  cl Tryd.prog 22 #[t125, t127] (fun t128_2 w =>
  (exq t128_2 0 (fun t129_8 w =>
  (exq t128_2 1 (fun t130_11 w =>
  stn 3 t14_7 t129_8 (fun w =>
  s6_p5 K B1 t3 t8 t14_7 t28 t29 t30 w) w) w) ∧
  (stn 3 t14_7 t129_8 (fun w =>
  exq t128_2 1 (fun t130_12 w =>
  s6_p5 K B1 t3 t8 t14_7 t28 t29 t30 w) w) w)) w) ∧
  (exq t128_2 1 (fun t130_13 w =>
  exq t128_2 0 (fun t129_9 w =>
  stn 3 t14_7 t129_9 (fun w =>
  s6_p5 K B1 t3 t8 t14_7 t28 t29 t30 w) w) w) w)) w) w))) w0)) w0) w0
def s6_p6 (K : Value → World → Prop) (B1 : List Value → World → Prop) (t3 t8 t28 t29 t30 : Value) (w : World) : Prop := ∃ J : World → Prop, J (drw w) ∧ s6_p6_d K B1 J t3 t8 t28 t29 t30 (drw w) (drw w)
def s6_p6_den (K : Value → World → Prop) (M1 : (Nat → Value) → World → Prop) : (Nat → Value) → World → Prop := denL Tryd.prog [(cd (Tryd.f6.body.getD .skip) [1, 1, 1, 0, 1, 0, 0, 1, 1, 0, 0, 1, 1, 1, 1, 1, 1, 1, 1, 1, 0, 1, 0, 0])] (s6_p5_den K M1) (fun i => (bif Nat.beq i 6 then (s6_p2_den K M1) else (bif Nat.beq i 1 then (s6_p2_den K M1) else (bif Nat.beq i 0 then (s6_p1_den K) else (fun _ _ => False))))) (s6_R K)
theorem s6_p6_ok (K : Value → World → Prop) (B1 : List Value → World → Prop) (s : Nat → Value) (w : World) (h : s6_p6 K B1 (s 3) (s 8) (s 28) (s 29) (s 30) w) : Tr (s6_p6_den K (fun s w => B1 [s 3, s 28, s 29, s 30] w) s w) :=
  Go.Sh.R.tr_drawR (P := Tryd.prog) (ops := (ro (cd (Tryd.f6.body.getD .skip) [1, 1, 1, 0, 1, 0, 0, 1, 1, 0, 0, 1, 1, 1, 1, 1, 1, 1, 1, 1, 0, 1, 0, 0]))) (ms := [0, 1, 3, 7, 0, 16, 63, 127, 255, 255, 0, 1535, 4095]) (cs := [0, 1, 2, 3, 4, 5]) (N := (fun s w => s6_p5 K B1 (s 3) (s 8) (s 14) (s 28) (s 29) (s 30) w)) (N' := (s6_p5_den K (fun s w => B1 [s 3, s 28, s 29, s 30] w))) (s := s) (w := w) (p := fun J => s6_p6_d K B1 J (s 3) (s 8) (s 28) (s 29) (s 30) (drw w) (drw w)) (q := s6_p6_den K (fun s w => B1 [s 3, s 28, s 29, s 30] w) s w) (by kernel_rfl) (by kernel_rfl) (fun s w h => s6_p5_ok K B1 s w @h) (by kernel_rfl) (by kernel_rfl) @h
def s6_p7 (K : Value → World → Prop) (B1 : List Value → World → Prop) (B2 : List Value → World → Prop) (t3 t8 t20 t28 t29 t30 t222 t223 t224 : Value) (w : World) : Prop :=
  boI .lss t224 t223 (fun t225 w =>
  ifb t225
  (ixs 3 t222 t224 (fun t226 w =>
  ldn 3 t226 (fun t227 w =>
  nw 66 #[(.int .i64 0), (.int .u32 0), (.slice none 0 0)] (fun t23 w =>
  stn 3 t23 t227 (fun w =>
  fd 2 t8 (fun t228 w =>
  ld1 t228 (fun t229 w =>
  fd 1 t23 (fun t230 w =>
  ld1 t230 (fun t231 w =>
  fd 2 t23 (fun t232 w =>
  ld1 t232 (fun t233 w =>
  lnS t233 (fun t234 w =>
  cvi .u32 t234 (fun t235 w =>
  boI .add t231 t235 (fun t236 w =>
  boI .lss t229 t236 (fun t237 w =>
  gd t237 true (fd 1 t23) (fun t239 w =>
  gd t237 true (ld1 t239) (fun t240 w =>
  gd t237 true (fd 2 t8) (fun t241 w =>
  gd t237 true (ld1 t241) (fun t242 w =>
  gd t237 true (fd 1 t20) (fun t243 w =>
  gd t237 true (ld1 t243) (fun t244 w =>
  gd t237 true (boI .add t242 t244) (fun t245 w =>
  gd t237 true (boI .lss t240 t245) (fun t246 w =>
  pk t237 t246 (.bool false) (fun t247 w =>
  ifb t247
  (K (.bool false) w)
  (boI .add t224 (.int .i64 1) (fun t248 w =>
  B2 [t3, t8, t20, t28, t29, t30, t222, t223, t248] w) w)) w) w) w) w) w) w) w) w) w) w) w) w) w) w) w) w) w) w) w) w) w) w) w)
  (s6_p2 K B1 t3 t28 t29 t30 w)) w
def s6_p7_den (K : Value → World → Prop) (M1 : (Nat → Value) → World → Prop) (M2 : (Nat → Value) → World → Prop) : (Nat → Value) → World → Prop := denL Tryd.prog [(cd (Tryd.f6.body.getD .skip) [1, 1, 1, 0, 1, 0, 0, 1, 1, 0, 0, 1, 1, 1, 1, 1, 1, 1, 1, 1, 0, 1, 1, 1, 0, 1, 1, 1, 0, 0, 0]), (cd (Tryd.f6.body.getD .skip) [1, 1, 1, 0, 1, 0, 0, 1, 1, 0, 0, 1, 1, 1, 1, 1, 1, 1, 1, 1, 0, 1, 1, 1, 0, 1, 1, 1, 0, 0, 1, 0]), (cd (Tryd.f6.body.getD .skip) [1, 1, 1, 0, 1, 0, 0, 1, 1, 0, 0, 1, 1, 1, 1, 1, 1, 1, 1, 1, 0, 1, 1, 1, 0, 1, 1, 1, 0, 0, 1, 1, 0]), (cd (Tryd.f6.body.getD .skip) [1, 1, 1, 0, 1, 0, 0, 1, 1, 0, 0, 1, 1, 1, 1, 1, 1, 1, 1, 1, 0, 1, 1, 1, 0, 1, 1, 1, 0, 0, 1, 1, 1])] M2 (fun i => (bif Nat.beq i 9 then (s6_p2_den K M1) else (bif Nat.beq i 6 then (s6_p2_den K M1) else (bif Nat.beq i 1 then (s6_p2_den K M1) else (bif Nat.beq i 0 then (s6_p1_den K) else (fun _ _ => False)))))) (s6_R K)
theorem s6_p7_ok (K : Value → World → Prop) (B1 : List Value → World → Prop) (B2 : List Value → World → Prop) (s : Nat → Value) (w : World) (h : s6_p7 K B1 B2 (s 3) (s 8) (s 20) (s 28) (s 29) (s 30) (s 222) (s 223) (s 224) w) : Tr (s6_p7_den K (fun s w => B1 [s 3, s 28, s 29, s 30] w) (fun s w => B2 [s 3, s 8, s 20, s 28, s 29, s 30, s 222, s 223, s 224] w) s w) :=
  tr_simple (P := Tryd.prog) (codes := [(cd (Tryd.f6.body.getD .skip) [1, 1, 1, 0, 1, 0, 0, 1, 1, 0, 0, 1, 1, 1, 1, 1, 1, 1, 1, 1, 0, 1, 1, 1, 0, 1, 1, 1, 0, 0, 0]), (cd (Tryd.f6.body.getD .skip) [1, 1, 1, 0, 1, 0, 0, 1, 1, 0, 0, 1, 1, 1, 1, 1, 1, 1, 1, 1, 0, 1, 1, 1, 0, 1, 1, 1, 0, 0, 1, 0]), (cd (Tryd.f6.body.getD .skip) [1, 1, 1, 0, 1, 0, 0, 1, 1, 0, 0, 1, 1, 1, 1, 1, 1, 1, 1, 1, 0, 1, 1, 1, 0, 1, 1, 1, 0, 0, 1, 1, 0]), (cd (Tryd.f6.body.getD .skip) [1, 1, 1, 0, 1, 0, 0, 1, 1, 0, 0, 1, 1, 1, 1, 1, 1, 1, 1, 1, 0, 1, 1, 1, 0, 1, 1, 1, 0, 0, 1, 1, 1])]) (N := (fun s w => B2 [s 3, s 8, s 20, s 28, s 29, s 30, s 222, s 223, s 224] w)) (N' := (fun s w => B2 [s 3, s 8, s 20, s 28, s 29, s 30, s 222, s 223, s 224] w)) (X := (fun i => (bif Nat.beq i 9 then (fun s w => s6_p2 K B1 (s 3) (s 28) (s 29) (s 30) w) else (bif Nat.beq i 6 then (fun s w => s6_p2 K B1 (s 3) (s 28) (s 29) (s 30) w) else (bif Nat.beq i 1 then (fun s w => s6_p2 K B1 (s 3) (s 28) (s 29) (s 30) w) else (bif Nat.beq i 0 then (fun s w => s6_p1 K w) else (fun _ _ => False))))))) (X' := (fun i => (bif Nat.beq i 9 then (s6_p2_den K (fun s w => B1 [s 3, s 28, s 29, s 30] w)) else (bif Nat.beq i 6 then (s6_p2_den K (fun s w => B1 [s 3, s 28, s 29, s 30] w)) else (bif Nat.beq i 1 then (s6_p2_den K (fun s w => B1 [s 3, s 28, s 29, s 30] w)) else (bif Nat.beq i 0 then (s6_p1_den K) else (fun _ _ => False))))))) (R := s6_R K) (s := s) (w := w) (p := s6_p7 K B1 B2 (s 3) (s 8) (s 20) (s 28) (s 29) (s 30) (s 222) (s 223) (s 224) w) (q := s6_p7_den K (fun s w => B1 [s 3, s 28, s 29, s 30] w) (fun s w => B2 [s 3, s 8, s 20, s 28, s 29, s 30, s 222, s 223, s 224] w) s w) tr_id (fun i => (tr_bif (fun s w h => s6_p2_ok K B1 s w @h) (tr_bif (fun s w h => s6_p2_ok K B1 s w @h) (tr_bif (fun s w h => s6_p2_ok K B1 s w @h) (tr_bif (fun s w h => s6_p1_ok K s w @h) tr_id))))) (by kernel_rfl) (by kernel_rfl) @h
def s6_p8_F (K : Value → World → Prop) (B1 : List Value → World → Prop) (B2 : List Value → World → Prop) (l : List Value) (w : World) : Prop :=
  match l with
  | [t3, t8, t20, t28, t29, t30, t222, t223, t224] => s6_p7 K B1 B2 t3 t8 t20 t28 t29 t30 t222 t223 t224 w
  | _ => False
theorem s6_p8_Fe {K : Value → World → Prop} {B1 : List Value → World → Prop} {B2 : List Value → World → Prop} {t3 t8 t20 t28 t29 t30 t222 t223 t224 : Value} {w : World} : s6_p8_F K B1 B2 [t3, t8, t20, t28, t29, t30, t222, t223, t224] w = s6_p7 K B1 B2 t3 t8 t20 t28 t29 t30 t222 t223 t224 w := by kernel_rfl
def s6_p8 (K : Value → World → Prop) (B1 : List Value → World → Prop) (t3 t8 t20 t28 t29 t30 t222 t223 t224 : Value) (w : World) : Prop :=
  LoopL (s6_p8_F K B1) [t3, t8, t20, t28, t29, t30, t222, t223, t224] w
def s6_p8_den (K : Value → World → Prop) (M1 : (Nat → Value) → World → Prop) : (Nat → Value) → World → Prop := fun s w => LoopP (fun M2 s w => s6_p7_den K M1 M2 s w) s w
theorem s6_p8_ok (K : Value → World → Prop) (B1 : List Value → World → Prop) (s : Nat → Value) (w : World) (h : s6_p8 K B1 (s 3) (s 8) (s 20) (s 28) (s 29) (s 30) (s 222) (s 223) (s 224) w) : Tr (s6_p8_den K (fun s w => B1 [s 3, s 28, s 29, s 30] w) s w) :=
  tr_loop (G := fun N' s w => s6_p7_den K (fun s w => B1 [s 3, s 28, s 29, s 30] w) N' s w) (F := s6_p8_F K B1) (sel := fun s => [s 3, s 8, s 20, s 28, s 29, s 30, s 222, s 223, s 224]) (s := s) (w := w) (p := s6_p8 K B1 (s 3) (s 8) (s 20) (s 28) (s 29) (s 30) (s 222) (s 223) (s 224) w) (q := s6_p8_den K (fun s w => B1 [s 3, s 28, s 29, s 30] w) s w) (fun B s w h => s6_p7_ok K B1 B s w @h) (by kernel_rfl) (by kernel_rfl) @h
def s6_p9 (K : Value → World → Prop) (B1 : List Value → World → Prop) (t3 t7 t8 t20 t28 t29 t30 : Value) (w : World) : Prop :=
  fd 2 t8 (fun t201 w =>
  ld1 t201 (fun t202 w =>
  fd 0 t20 (fun t203 w =>
  ld1 t203 (fun t204 w =>
  boI .lss t202 t204 (fun t205 w =>
  gd t205 false (fd 2 t8) (fun t207 w =>
  gd t205 false (ld1 t207) (fun t208 w =>
  gd t205 false (fd 1 t20) (fun t209 w =>
  gd t205 false (ld1 t209) (fun t210 w =>
  gd t205 false (boI .add t208 t210) (fun t211 w =>
  gd t205 false (fd 0 t20) (fun t212 w =>
  gd t205 false (ld1 t212) (fun t213 w =>
  gd t205 false (fd 2 t20) (fun t214 w =>
  gd t205 false (ld1 t214) (fun t215 w =>
  gd t205 false (fd 1 t20) (fun t216 w =>
  gd t205 false (ld1 t216) (fun t217 w =>
  gd t205 false (boI .mul t215 t217) (fun t218 w =>
  gd t205 false (boI .add t213 t218) (fun t219 w =>
  gd t205 false (boI .gtr t211 t219) (fun t220 w =>
  pk t205 (.bool true) t220 (fun t221 w =>
  ifb t221
  (K (.bool false) w)
  (lnS t7 (fun t223 w =>
  s6_p8 K B1 t3 t8 t20 t28 t29 t30 t7 t223 (.int .i64 0) w) w)) w) w) w) w) w) w) w) w) w) w) w) w) w) w) w) w) w) w) w) w
def s6_p9_den (K : Value → World → Prop) (M1 : (Nat → Value) → World → Prop) : (Nat → Value) → World → Prop := denL Tryd.prog [(cd (Tryd.f6.body.getD .skip) [1, 1, 1, 0, 1, 0, 0, 1, 1, 0, 0, 1, 1, 1, 1, 1, 1, 1, 1, 1, 0, 1, 1, 1, 0, 1, 0, 0]), (cd (Tryd.f6.body.getD .skip) [1, 1, 1, 0, 1, 0, 0, 1, 1, 0, 0, 1, 1, 1, 1, 1, 1, 1, 1, 1, 0, 1, 1, 1, 0, 1, 0, 1]), (cd (Tryd.f6.body.getD .skip) [1, 1, 1, 0, 1, 0, 0, 1, 1, 0, 0, 1, 1, 1, 1, 1, 1, 1, 1, 1, 0, 1, 1, 1, 0, 1, 1, 0])] (s6_p8_den K M1) (fun i => (bif Nat.beq i 6 then (s6_p2_den K M1) else (bif Nat.beq i 1 then (s6_p2_den K M1) else (bif Nat.beq i 0 then (s6_p1_den K) else (fun _ _ => False))))) (s6_R K)
theorem s6_p9_ok (K : Value → World → Prop) (B1 : List Value → World → Prop) (s : Nat → Value) (w : World) (h : s6_p9 K B1 (s 3) (s 7) (s 8) (s 20) (s 28) (s 29) (s 30) w) : Tr (s6_p9_den K (fun s w => B1 [s 3, s 28, s 29, s 30] w) s w) :=
  tr_simple (P := Tryd.prog) (codes := [(cd (Tryd.f6.body.getD .skip) [1, 1, 1, 0, 1, 0, 0, 1, 1, 0, 0, 1, 1, 1, 1, 1, 1, 1, 1, 1, 0, 1, 1, 1, 0, 1, 0, 0]), (cd (Tryd.f6.body.getD .skip) [1, 1, 1, 0, 1, 0, 0, 1, 1, 0, 0, 1, 1, 1, 1, 1, 1, 1, 1, 1, 0, 1, 1, 1, 0, 1, 0, 1]), (cd (Tryd.f6.body.getD .skip) [1, 1, 1, 0, 1, 0, 0, 1, 1, 0, 0, 1, 1, 1, 1, 1, 1, 1, 1, 1, 0, 1, 1, 1, 0, 1, 1, 0])]) (N := (fun s w => s6_p8 K B1 (s 3) (s 8) (s 20) (s 28) (s 29) (s 30) (s 222) (s 223) (s 224) w)) (N' := (s6_p8_den K (fun s w => B1 [s 3, s 28, s 29, s 30] w))) (X := (fun i => (bif Nat.beq i 6 then (fun s w => s6_p2 K B1 (s 3) (s 28) (s 29) (s 30) w) else (bif Nat.beq i 1 then (fun s w => s6_p2 K B1 (s 3) (s 28) (s 29) (s 30) w) else (bif Nat.beq i 0 then (fun s w => s6_p1 K w) else (fun _ _ => False)))))) (X' := (fun i => (bif Nat.beq i 6 then (s6_p2_den K (fun s w => B1 [s 3, s 28, s 29, s 30] w)) else (bif Nat.beq i 1 then (s6_p2_den K (fun s w => B1 [s 3, s 28, s 29, s 30] w)) else (bif Nat.beq i 0 then (s6_p1_den K) else (fun _ _ => False)))))) (R := s6_R K) (s := s) (w := w) (p := s6_p9 K B1 (s 3) (s 7) (s 8) (s 20) (s 28) (s 29) (s 30) w) (q := s6_p9_den K (fun s w => B1 [s 3, s 28, s 29, s 30] w) s w) (fun s w h => s6_p8_ok K B1 s w @h) (fun i => (tr_bif (fun s w h => s6_p2_ok K B1 s w @h) (tr_bif (fun s w h => s6_p2_ok K B1 s w @h) (tr_bif (fun s w h => s6_p1_ok K s w @h) tr_id)))) (by kernel_rfl) (by kernel_rfl) @h
def s6_p10_d (K : Value → World → Prop) (B1 : List Value → World → Prop) (J : World → Prop) (t3 t6 t7 t8 t28 t29 t30 : Value) (w0 w : World) : Prop :=
  nck t3 (fun t193 _ =>
  fd 1 t193 (fun t194 _ =>
  Go.Sh.R.qw J (ld1 t194) (fun t195 =>
  fd 1 t6 (fun t196 _ =>
  Go.Sh.R.qw J (ld1 t196) (fun t197 =>
  (cl Tryd.prog 22 #[t195, t197] (fun t198 w =>
  ((exq t198 0 (fun t199 w =>
  (exq t198 1 (fun t200 w =>
  nw 68 #[(.int .u32 0), (.int .u32 0), (.int .u32 0)] (fun t20 w =>
  J w ∧
  stn 3 t20 t199 (fun w =>
  s6_p9 K B1 t3 t7 t8 t20 t28 t29 t30 w) w) w) w) ∧
  (nw 68 #[(.int .u32 0), (.int .u32 0), (.int .u32 0)] (fun t20_2 w =>
  J w ∧
  (exq t198 1 (fun t200_2 w =>
  stn 3 t20_2 t199 (fun w =>
  s6_p9 K B1 t3 t7 t8 t20_2 t28 t29 t30 w) w) w) ∧
  (stn 3 t20_2 t199 (fun w =>
  exq t198 1 (fun t200_3 w =>
  s6_p9 K B1 t3 t7 t8 t20_2 t28 t29 t30 w) w) w)) w)) w) ∧
  (exq t198 1 (fun t200_4 w =>
  (exq t198 0 (fun t199_2 w =>
  nw 68 #[(.int .u32 0), (.int .u32 0), (.int .u32 0)] (fun t20_3 w =>
  J w ∧
  stn 3 t20_3 t199_2 (fun w =>
  s6_p9 K B1 t3 t7 t8 t20_3 t28 t29 t30 w) w) w) w) ∧
  (nw 68 #[(.int .u32 0), (.int .u32 0), (.int .u32 0)] (fun t20_4 w =>
  J w ∧
  exq t198 0 (fun t199_3 w =>
  stn 3 t20_4 t199_3 (fun w =>
  s6_p9 K B1 t3 t7 t8 t20_4 t28 t29 t30 w) w) w) w)) w) ∧
  (nw 68 #[(.int .u32 0), (.int .u32 0), (.int .u32 0)] (fun t20_5 w =>
  J w ∧
  (exq t198 0 (fun t199_4 w =>
  (exq t198 1 (fun t200_5 w =>
  stn 3 t20_5 t199_4 (fun w =>
  s6_p9 K B1 t3 t7 t8 t20_5 t28 t29 t30 w) w) w) ∧
  (stn 3 t20_5 t199_4 (fun w =>
  exq t198 1 (fun t200_6 w =>
  s6_p9 K B1 t3 t7 t8 t20_5 t28 t29 t30 w) w) w)) w) ∧
  (exq t198 1 (fun t200_7 w =>
  exq t198 0 (fun t199_5 w =>
  stn 3 t20_5 t199_5 (fun w =>
  s6_p9 K B1 t3 t7 t8 t20_5 t28 t29 t30 w) w) w) w)) w)) ∧
  (nw 68 #[(.int .u32 0), (.int .u32 0), (.int .u32 0)] (fun t20_6 w =>
  J w ∧
  (exq t198 0 (fun t199_6 w =>
  (exq t198 1 (fun t200_8 w =>
  stn 3 t20_6 t199_6 (fun w =>
  s6_p9 K B1 t3 t7 t8 t20_6 t28 t29 t30 w) w) w) ∧
  (stn 3 t20_6 t199_6 (fun w =>
  exq t198 1 (fun t200_9 w =>
  s6_p9 K B1 t3 t7 t8 t20_6 t28 t29 t30 w) w) w)) w) ∧
  (exq t198 1 (fun t200_10 w =>
  exq t198 0 (fun t199_7 w =>
  stn 3 t20_6 t199_7 (fun w =>
  s6_p9 K B1 t3 t7 t8 t20_6 t28 t29 t30 w) w) w) w)) w)) w) ∧
  (nw 68 #[(.int .u32 0), (.int .u32 0), (.int .u32 0)] (fun t20_7 w =>
  J w ∧
  cl Tryd.prog 22 #[t195, t197] (fun t198_2 w =>
  (exq t198_2 0 (fun t199_8 w =>
  (exq t198_2 1 (fun t200_11 w =>
  stn 3 t20_7 t199_8 (fun w =>
  s6_p9 K B1 t3 t7 t8 t20_7 t28 t29 t30 w) w) w) ∧
  (stn 3 t20_7 t199_8 (fun w =>
  exq t198_2 1 (fun t200_12 w =>
  s6_p9 K B1 t3 t7 t8 t20_7 t28 t29 t30 w) w) w)) w) ∧
  (exq t198_2 1 (fun t200_13 w =>
  exq t198_2 0 (fun t199_9 w =>
  stn 3 t20_7 t199_9 (fun w =>
  s6_p9 K B1 t3 t7 t8 t20_7 t28 t29 t30 w) w) w) w)) w) w))) w0)) w0) w0
def s6_p10 (K : Value → World → Prop) (B1 : List Value → World → Prop) (t3 t6 t7 t8 t28 t29 t30 : Value) (w : World) : Prop := ∃ J : World → Prop, J (drw w) ∧ s6_p10_d K B1 J t3 t6 t7 t8 t28 t29 t30 (drw w) (drw w)
def s6_p10_den (K : Value → World → Prop) (M1 : (Nat → Value) → World → Prop) : (Nat → Value) → World → Prop := denL Tryd.prog [(cd (Tryd.f6.body.getD .skip) [1, 1, 1, 0, 1, 0, 0, 1, 1, 0, 0, 1, 1, 1, 1, 1, 1, 1, 1, 1, 0, 1, 1, 1, 0, 0])] (s6_p9_den K M1) (fun i => (bif Nat.beq i 6 then (s6_p2_den K M1) else (bif Nat.beq i 1 then (s6_p2_den K M1) else (bif Nat.beq i 0 then (s6_p1_den K) else (fun _ _ => False))))) (s6_R K)
theorem s6_p10_ok (K : Value → World → Prop) (B1 : List Value → World → Prop) (s : Nat → Value) (w : World) (h : s6_p10 K B1 (s 3) (s 6) (s 7) (s 8) (s 28) (s 29) (s 30) w) : Tr (s6_p10_den K (fun s w => B1 [s 3, s 28, s 29, s 30] w) s w) :=
  Go.Sh.R.tr_drawR (P := Tryd.prog) (ops := (ro (cd (Tryd.f6.body.getD .skip) [1, 1, 1, 0, 1, 0, 0, 1, 1, 0, 0, 1, 1, 1, 1, 1, 1, 1, 1, 1, 0, 1, 1, 1, 0, 0]))) (ms := [0, 1, 3, 7, 0, 16, 63, 127, 255, 255, 0, 1535, 4095]) (cs := [0, 1, 2, 3, 4, 5]) (N := (fun s w => s6_p9 K B1 (s 3) (s 7) (s 8) (s 20) (s 28) (s 29) (s 30) w)) (N' := (s6_p9_den K (fun s w => B1 [s 3, s 28, s 29, s 30] w))) (s := s) (w := w) (p := fun J => s6_p10_d K B1 J (s 3) (s 6) (s 7) (s 8) (s 28) (s 29) (s 30) (drw w) (drw w)) (q := s6_p10_den K (fun s w => B1 [s 3, s 28, s 29, s 30] w) s w) (by kernel_rfl) (by kernel_rfl) (fun s w h => s6_p9_ok K B1 s w @h) (by kernel_rfl) (by kernel_rfl) @h
def s6_p11 (K : Value → World → Prop) (B1 : List Value → World → Prop) (t3 t6 t7 t8 t28 t29 t30 t189 : Value) (w : World) : Prop :=
  ifb t189
  (s6_p10 K B1 t3 t6 t7 t8 t28 t29 t30 w)
  (s6_p2 K B1 t3 t28 t29 t30 w)
def s6_p11_den (K : Value → World → Prop) (M1 : (Nat → Value) → World → Prop) : (Nat → Value) → World → Prop := fun s w => ifb (ev s (.tmp 189)) ((s6_p10_den K M1) s w) ((s6_p2_den K M1) s w)
theorem s6_p11_ok (K : Value → World → Prop) (B1 : List Value → World → Prop) (s : Nat → Value) (w : World) (h : s6_p11 K B1 (s 3) (s 6) (s 7) (s 8) (s 28) (s 29) (s 30) (s 189) w) : Tr (s6_p11_den K (fun s w => B1 [s 3, s 28, s 29, s 30] w) s w) :=
  tr_cond (v := ev s (.tmp 189)) (a := (fun s w => s6_p10 K B1 (s 3) (s 6) (s 7) (s 8) (s 28) (s 29) (s 30) w) s w) (a' := (s6_p10_den K (fun s w => B1 [s 3, s 28, s 29, s 30] w)) s w) (b := (fun s w => s6_p2 K B1 (s 3) (s 28) (s 29) (s 30) w) s w) (b' := (s6_p2_den K (fun s w => B1 [s 3, s 28, s 29, s 30] w)) s w) (p := s6_p11 K B1 (s 3) (s 6) (s 7) (s 8) (s 28) (s 29) (s 30) (s 189) w) (q := s6_p11_den K (fun s w => B1 [s 3, s 28, s 29, s 30] w) s w) ((fun s w h => s6_p10_ok K B1 s w @h) s w) ((fun s w h => s6_p2_ok K B1 s w @h) s w) (by kernel_rfl) (by kernel_rfl) @h
def s6_p12 (K : Value → World → Prop) (B1 : List Value → World → Prop) (t3 t6 t7 t8 t28 t29 t30 t118 : Value) (w : World) : Prop :=
  boI .eql t118 (.int .u8 2) (fun t190 w =>
  s6_p11 K B1 t3 t6 t7 t8 t28 t29 t30 t190 w) w
def s6_p12_den (K : Value → World → Prop) (M1 : (Nat → Value) → World → Prop) : (Nat → Value) → World → Prop := denL Tryd.prog [(cd (Tryd.f6.body.getD .skip) [1, 1, 1, 0, 1, 0, 0, 1, 1, 0, 0, 1, 1, 1, 1, 1, 1, 1, 1, 1, 0, 1, 1, 0])] (s6_p11_den K M1) (fun i => (bif Nat.beq i 6 then (s6_p2_den K M1) else (bif Nat.beq i 1 then (s6_p2_den K M1) else (bif Nat.beq i 0 then (s6_p1_den K) else (fun _ _ => False))))) (s6_R K)
theorem s6_p12_ok (K : Value → World → Prop) (B1 : List Value → World → Prop) (s : Nat → Value) (w : World) (h : s6_p12 K B1 (s 3) (s 6) (s 7) (s 8) (s 28) (s 29) (s 30) (s 118) w) : Tr (s6_p12_den K (fun s w => B1 [s 3, s 28, s 29, s 30] w) s w) :=
  tr_simple (P := Tryd.prog) (codes := [(cd (Tryd.f6.body.getD .skip) [1, 1, 1, 0, 1, 0, 0, 1, 1, 0, 0, 1, 1, 1, 1, 1, 1, 1, 1, 1, 0, 1, 1, 0])]) (N := (fun s w => s6_p11 K B1 (s 3) (s 6) (s 7) (s 8) (s 28) (s 29) (s 30) (s 189) w)) (N' := (s6_p11_den K (fun s w => B1 [s 3, s 28, s 29, s 30] w))) (X := (fun i => (bif Nat.beq i 6 then (fun s w => s6_p2 K B1 (s 3) (s 28) (s 29) (s 30) w) else (bif Nat.beq i 1 then (fun s w => s6_p2 K B1 (s 3) (s 28) (s 29) (s 30) w) else (bif Nat.beq i 0 then (fun s w => s6_p1 K w) else (fun _ _ => False)))))) (X' := (fun i => (bif Nat.beq i 6 then (s6_p2_den K (fun s w => B1 [s 3, s 28, s 29, s 30] w)) else (bif Nat.beq i 1 then (s6_p2_den K (fun s w => B1 [s 3, s 28, s 29, s 30] w)) else (bif Nat.beq i 0 then (s6_p1_den K) else (fun _ _ => False)))))) (R := s6_R K) (s := s) (w := w) (p := s6_p12 K B1 (s 3) (s 6) (s 7) (s 8) (s 28) (s 29) (s 30) (s 118) w) (q := s6_p12_den K (fun s w => B1 [s 3, s 28, s 29, s 30] w) s w) (fun s w h => s6_p11_ok K B1 s w @h) (fun i => (tr_bif (fun s w h => s6_p2_ok K B1 s w @h) (tr_bif (fun s w h => s6_p2_ok K B1 s w @h) (tr_bif (fun s w h => s6_p1_ok K s w @h) tr_id)))) (by kernel_rfl) (by kernel_rfl) @h
def s6_p13 (K : Value → World → Prop) (B1 : List Value → World → Prop) (t3 t6 t7 t8 t28 t29 t30 t118 t119 : Value) (w : World) : Prop :=
  ifb t119
  (s6_p6 K B1 t3 t8 t28 t29 t30 w)
  (s6_p12 K B1 t3 t6 t7 t8 t28 t29 t30 t118 w)
def s6_p13_den (K : Value → World → Prop) (M1 : (Nat → Value) → World → Prop) : (Nat → Value) → World → Prop := fun s w => ifb (ev s (.tmp 119)) ((s6_p6_den K M1) s w) ((s6_p12_den K M1) s w)
theorem s6_p13_ok (K : Value → World → Prop) (B1 : List Value → World → Prop) (s : Nat → Value) (w : World) (h : s6_p13 K B1 (s 3) (s 6) (s 7) (s 8) (s 28) (s 29) (s 30) (s 118) (s 119) w) : Tr (s6_p13_den K (fun s w => B1 [s 3, s 28, s 29, s 30] w) s w) :=
  tr_cond (v := ev s (.tmp 119)) (a := (fun s w => s6_p6 K B1 (s 3) (s 8) (s 28) (s 29) (s 30) w) s w) (a' := (s6_p6_den K (fun s w => B1 [s 3, s 28, s 29, s 30] w)) s w) (b := (fun s w => s6_p12 K B1 (s 3) (s 6) (s 7) (s 8) (s 28) (s 29) (s 30) (s 118) w) s w) (b' := (s6_p12_den K (fun s w => B1 [s 3, s 28, s 29, s 30] w)) s w) (p := s6_p13 K B1 (s 3) (s 6) (s 7) (s 8) (s 28) (s 29) (s 30) (s 118) (s 119) w) (q := s6_p13_den K (fun s w => B1 [s 3, s 28, s 29, s 30] w) s w) ((fun s w h => s6_p6_ok K B1 s w @h) s w) ((fun s w h => s6_p12_ok K B1 s w @h) s w) (by kernel_rfl) (by kernel_rfl) @h
def s6_p14 (K : Value → World → Prop) (B1 : List Value → World → Prop) (t3 t6 t7 t8 t28 t29 t30 t118 : Value) (w : World) : Prop :=
  boI .eql t118 (.int .u8 1) (fun t120 w =>
  s6_p13 K B1 t3 t6 t7 t8 t28 t29 t30 t118 t120 w) w
def s6_p14_den (K : Value → World → Prop) (M1 : (Nat → Value) → World → Prop) : (Nat → Value) → World → Prop := denL Tryd.prog [(cd (Tryd.f6.body.getD .skip) [1, 1, 1, 0, 1, 0, 0, 1, 1, 0, 0, 1, 1, 1, 1, 1, 1, 1, 1, 1, 0, 0])] (s6_p13_den K M1) (fun i => (bif Nat.beq i 6 then (s6_p2_den K M1) else (bif Nat.beq i 1 then (s6_p2_den K M1) else (bif Nat.beq i 0 then (s6_p1_den K) else (fun _ _ => False))))) (s6_R K)
theorem s6_p14_ok (K : Value → World → Prop) (B1 : List Value → World → Prop) (s : Nat → Value) (w : World) (h : s6_p14 K B1 (s 3) (s 6) (s 7) (s 8) (s 28) (s 29) (s 30) (s 118) w) : Tr (s6_p14_den K (fun s w => B1 [s 3, s 28, s 29, s 30] w) s w) :=
  tr_simple (P := Tryd.prog) (codes := [(cd (Tryd.f6.body.getD .skip) [1, 1, 1, 0, 1, 0, 0, 1, 1, 0, 0, 1, 1, 1, 1, 1, 1, 1, 1, 1, 0, 0])]) (N := (fun s w => s6_p13 K B1 (s 3) (s 6) (s 7) (s 8) (s 28) (s 29) (s 30) (s 118) (s 119) w)) (N' := (s6_p13_den K (fun s w => B1 [s 3, s 28, s 29, s 30] w))) (X := (fun i => (bif Nat.beq i 6 then (fun s w => s6_p2 K B1 (s 3) (s 28) (s 29) (s 30) w) else (bif Nat.beq i 1 then (fun s w => s6_p2 K B1 (s 3) (s 28) (s 29) (s 30) w) else (bif Nat.beq i 0 then (fun s w => s6_p1 K w) else (fun _ _ => False)))))) (X' := (fun i => (bif Nat.beq i 6 then (s6_p2_den K (fun s w => B1 [s 3, s 28, s 29, s 30] w)) else (bif Nat.beq i 1 then (s6_p2_den K (fun s w => B1 [s 3, s 28, s 29, s 30] w)) else (bif Nat.beq i 0 then (s6_p1_den K) else (fun _ _ => False)))))) (R := s6_R K) (s := s) (w := w) (p := s6_p14 K B1 (s 3) (s 6) (s 7) (s 8) (s 28) (s 29) (s 30) (s 118) w) (q := s6_p14_den K (fun s w => B1 [s 3, s 28, s 29, s 30] w) s w) (fun s w h => s6_p13_ok K B1 s w @h) (fun i => (tr_bif (fun s w h => s6_p2_ok K B1 s w @h) (tr_bif (fun s w h => s6_p2_ok K B1 s w @h) (tr_bif (fun s w h => s6_p1_ok K s w @h) tr_id)))) (by kernel_rfl) (by kernel_rfl) @h
def s6_p15 (K : Value → World → Prop) (B1 : List Value → World → Prop) (t3 t6 t7 t8 t28 t29 t30 : Value) (w : World) : Prop :=
  fd 0 t8 (fun t114 w =>
  ld1 t114 (fun t115 w =>
  boI .neq t115 (.int .i64 0) (fun t116 w =>
  ifb t116
  (s6_p2 K B1 t3 t28 t29 t30 w)
  (fd 0 t6 (fun t117 w =>
  ld1 t117 (fun t118 w =>
  s6_p14 K B1 t3 t6 t7 t8 t28 t29 t30 t118 w) w) w)) w) w) w
def s6_p15_den (K : Value → World → Prop) (M1 : (Nat → Value) → World → Prop) : (Nat → Value) → World → Prop := denL Tryd.prog [(cd (Tryd.f6.body.getD .skip) [1, 1, 1, 0, 1, 0, 0, 1, 1, 0, 0, 1, 1, 1, 1, 1, 1, 1, 0, 0]), (cd (Tryd.f6.body.getD .skip) [1, 1, 1, 0, 1, 0, 0, 1, 1, 0, 0, 1, 1, 1, 1, 1, 1, 1, 0, 1]), (cd (Tryd.f6.body.getD .skip) [1, 1, 1, 0, 1, 0, 0, 1, 1, 0, 0, 1, 1, 1, 1, 1, 1, 1, 1, 0])] (s6_p14_den K M1) (fun i => (bif Nat.beq i 1 then (s6_p2_den K M1) else (bif Nat.beq i 0 then (s6_p1_den K) else (fun _ _ => False)))) (s6_R K)
theorem s6_p15_ok (K : Value → World → Prop) (B1 : List Value → World → Prop) (s : Nat → Value) (w : World) (h : s6_p15 K B1 (s 3) (s 6) (s 7) (s 8) (s 28) (s 29) (s 30) w) : Tr (s6_p15_den K (fun s w => B1 [s 3, s 28, s 29, s 30] w) s w) :=
  tr_simple (P := Tryd.prog) (codes := [(cd (Tryd.f6.body.getD .skip) [1, 1, 1, 0, 1, 0, 0, 1, 1, 0, 0, 1, 1, 1, 1, 1, 1, 1, 0, 0]), (cd (Tryd.f6.body.getD .skip) [1, 1, 1, 0, 1, 0, 0, 1, 1, 0, 0, 1, 1, 1, 1, 1, 1, 1, 0, 1]), (cd (Tryd.f6.body.getD .skip) [1, 1, 1, 0, 1, 0, 0, 1, 1, 0, 0, 1, 1, 1, 1, 1, 1, 1, 1, 0])]) (N := (fun s w => s6_p14 K B1 (s 3) (s 6) (s 7) (s 8) (s 28) (s 29) (s 30) (s 118) w)) (N' := (s6_p14_den K (fun s w => B1 [s 3, s 28, s 29, s 30] w))) (X := (fun i => (bif Nat.beq i 1 then (fun s w => s6_p2 K B1 (s 3) (s 28) (s 29) (s 30) w) else (bif Nat.beq i 0 then (fun s w => s6_p1 K w) else (fun _ _ => False))))) (X' := (fun i => (bif Nat.beq i 1 then (s6_p2_den K (fun s w => B1 [s 3, s 28, s 29, s 30] w)) else (bif Nat.beq i 0 then (s6_p1_den K) else (fun _ _ => False))))) (R := s6_R K) (s := s) (w := w) (p := s6_p15 K B1 (s 3) (s 6) (s 7) (s 8) (s 28) (s 29) (s 30) w) (q := s6_p15_den K (fun s w => B1 [s 3, s 28, s 29, s 30] w) s w) (fun s w h => s6_p14_ok K B1 s w @h) (fun i => (tr_bif (fun s w h => s6_p2_ok K B1 s w @h) (tr_bif (fun s w h => s6_p1_ok K s w @h) tr_id))) (by kernel_rfl) (by kernel_rfl) @h
def s6_p16 (K : Value → World → Prop) (B1 : List Value → World → Prop) (B2 : List Value → World → Prop) (t3 t6 t7 t8 t28 t29 t30 t62 t63 t64 : Value) (w : World) : Prop :=
  boI .add t64 (.int .i64 1) (fun t113 w =>
  B2 [t3, t6, t7, t8, t28, t29, t30, t62, t63, t113] w) w
def s6_p16_den (K : Value → World → Prop) (M1 : (Nat → Value) → World → Prop) (M2 : (Nat → Value) → World → Prop) : (Nat → Value) → World → Prop := denL Tryd.prog [(cd (Tryd.f6.body.getD .skip) [1, 1, 1, 0, 1, 0, 0, 1, 1, 0, 0, 1, 1, 1, 1, 1, 1, 0, 1, 0, 0, 1, 1, 1])] M2 (fun i => (bif Nat.beq i 2 then (s6_p15_den K M1) else (bif Nat.beq i 1 then (s6_p2_den K M1) else (bif Nat.beq i 0 then (s6_p1_den K) else (fun _ _ => False))))) (s6_R K)
theorem s6_p16_ok (K : Value → World → Prop) (B1 : List Value → World → Prop) (B2 : List Value → World → Prop) (s : Nat → Value) (w : World) (h : s6_p16 K B1 B2 (s 3) (s 6) (s 7) (s 8) (s 28) (s 29) (s 30) (s 62) (s 63) (s 64) w) : Tr (s6_p16_den K (fun s w => B1 [s 3, s 28, s 29, s 30] w) (fun s w => B2 [s 3, s 6, s 7, s 8, s 28, s 29, s 30, s 62, s 63, s 64] w) s w) :=
  tr_simple (P := Tryd.prog) (codes := [(cd (Tryd.f6.body.getD .skip) [1, 1, 1, 0, 1, 0, 0, 1, 1, 0, 0, 1, 1, 1, 1, 1, 1, 0, 1, 0, 0, 1, 1, 1])]) (N := (fun s w => B2 [s 3, s 6, s 7, s 8, s 28, s 29, s 30, s 62, s 63, s 64] w)) (N' := (fun s w => B2 [s 3, s 6, s 7, s 8, s 28, s 29, s 30, s 62, s 63, s 64] w)) (X := (fun i => (bif Nat.beq i 2 then (fun s w => s6_p15 K B1 (s 3) (s 6) (s 7) (s 8) (s 28) (s 29) (s 30) w) else (bif Nat.beq i 1 then (fun s w => s6_p2 K B1 (s 3) (s 28) (s 29) (s 30) w) else (bif Nat.beq i 0 then (fun s w => s6_p1 K w) else (fun _ _ => False)))))) (X' := (fun i => (bif Nat.beq i 2 then (s6_p15_den K (fun s w => B1 [s 3, s 28, s 29, s 30] w)) else (bif Nat.beq i 1 then (s6_p2_den K (fun s w => B1 [s 3, s 28, s 29, s 30] w)) else (bif Nat.beq i 0 then (s6_p1_den K) else (fun _ _ => False)))))) (R := s6_R K) (s := s) (w := w) (p := s6_p16 K B1 B2 (s 3) (s 6) (s 7) (s 8) (s 28) (s 29) (s 30) (s 62) (s 63) (s 64) w) (q := s6_p16_den K (fun s w => B1 [s 3, s 28, s 29, s 30] w) (fun s w => B2 [s 3, s 6, s 7, s 8, s 28, s 29, s 30, s 62, s 63, s 64] w) s w) tr_id (fun i => (tr_bif (fun s w h => s6_p15_ok K B1 s w @h) (tr_bif (fun s w h => s6_p2_ok K B1 s w @h) (tr_bif (fun s w h => s6_p1_ok K s w @h) tr_id)))) (by kernel_rfl) (by kernel_rfl) @h
def s6_p17 (K : Value → World → Prop) (B1 : List Value → World → Prop) (B2 : List Value → World → Prop) (B3 : List Value → World → Prop) (t3 t6 t7 t8 t10 t28 t29 t30 t62 t63 t64 t72 t73 t74 : Value) (w : World) : Prop :=
  boI .lss t74 t73 (fun t75 w =>
  ifb t75
  (ixs 3 t72 t74 (fun t76 w =>
  ldn 3 t76 (fun t77 w =>
  nw 66 #[(.int .i64 0), (.int .u32 0), (.slice none 0 0)] (fun t12 w =>
  stn 3 t12 t77 (fun w =>
  fd 0 t8 (fun t78 w =>
  ld1 t78 (fun t79 w =>
  boI .eql t79 (.int .i64 0) (fun t80 w =>
  gd t80 true (fd 0 t6) (fun t82 w =>
  gd t80 true (ld1 t82) (fun t83 w =>
  gd t80 true (boI .neq t83 (.int .u8 2)) (fun t84 w =>
  pk t80 t84 (.bool false) (fun t85 w =>
  gd t85 true (fd 1 t12) (fun t87 w =>
  gd t85 true (ld1 t87) (fun t88 w =>
  gd t85 true (fd 2 t6) (fun t89 w =>
  gd t85 true (ld1 t89) (fun t90 w =>
  gd t85 true (boI .eql t88 t90) (fun t91 w =>
  pk t85 t91 (.bool false) (fun t92 w =>
  un .not t92 (fun t94 w =>
  gd t94 true (fun K w => K t10 w) (fun t96 w =>
  gd t94 true (fd 1 t12) (fun t97 w =>
  gd t94 true (ld1 t97) (fun t98 w =>
  gd t94 true (boI .geq t96 t98) (fun t99 w =>
  pk t94 t99 (.bool false) (fun t100 w =>
  gd t100 true (fun K w => K t10 w) (fun t102 w =>
  gd t100 true (fd 1 t12) (fun t103 w =>
  gd t100 true (ld1 t103) (fun t104 w =>
  gd t100 true (fd 2 t12) (fun t105 w =>
  gd t100 true (ld1 t105) (fun t106 w =>
  gd t100 true (lnS t106) (fun t107 w =>
  gd t100 true (cvi .u32 t107) (fun t108 w =>
  gd t100 true (boI .add t104 t108) (fun t109 w =>
  gd t100 true (boI .lss t102 t109) (fun t110 w =>
  pk t100 t110 (.bool false) (fun t111 w =>
  ifb t111
  (K (.bool false) w)
  (boI .add t74 (.int .i64 1) (fun t112 w =>
  B3 [t3, t6, t7, t8, t10, t28, t29, t30, t62, t63, t64, t72, t73, t112] w) w)) w) w) w) w) w) w) w) w) w) w) w) w) w) w) w) w) w) w) w) w) w) w) w) w) w) w) w) w) w) w) w) w) w)
  (s6_p16 K B1 B2 t3 t6 t7 t8 t28 t29 t30 t62 t63 t64 w)) w
def s6_p17_den (K : Value → World → Prop) (M1 : (Nat → Value) → World → Prop) (M2 : (Nat → Value) → World → Prop) (M3 : (Nat → Value) → World → Prop) : (Nat → Value) → World → Prop := denL Tryd.prog [(cd (Tryd.f6.body.getD .skip) [1, 1, 1, 0, 1, 0, 0, 1, 1, 0, 0, 1, 1, 1, 1, 1, 1, 0, 1, 0, 0, 1, 1, 0, 0, 1, 1, 1, 0, 0, 0]), (cd (Tryd.f6.body.getD .skip) [1, 1, 1, 0, 1, 0, 0, 1, 1, 0, 0, 1, 1, 1, 1, 1, 1, 0, 1, 0, 0, 1, 1, 0, 0, 1, 1, 1, 0, 0, 1, 0]), (cd (Tryd.f6.body.getD .skip) [1, 1, 1, 0, 1, 0, 0, 1, 1, 0, 0, 1, 1, 1, 1, 1, 1, 0, 1, 0, 0, 1, 1, 0, 0, 1, 1, 1, 0, 0, 1, 1, 0]), (cd (Tryd.f6.body.getD .skip) [1, 1, 1, 0, 1, 0, 0, 1, 1, 0, 0, 1, 1, 1, 1, 1, 1, 0, 1, 0, 0, 1, 1, 0, 0, 1, 1, 1, 0, 0, 1, 1, 1])] M3 (fun i => (bif Nat.beq i 4 then (s6_p16_den K M1 M2) else (bif Nat.beq i 3 then (s6_p16_den K M1 M2) else (bif Nat.beq i 2 then (s6_p15_den K M1) else (bif Nat.beq i 1 then (s6_p2_den K M1) else (bif Nat.beq i 0 then (s6_p1_den K) else (fun _ _ => False))))))) (s6_R K)
theorem s6_p17_ok (K : Value → World → Prop) (B1 : List Value → World → Prop) (B2 : List Value → World → Prop) (B3 : List Value → World → Prop) (s : Nat → Value) (w : World) (h : s6_p17 K B1 B2 B3 (s 3) (s 6) (s 7) (s 8) (s 10) (s 28) (s 29) (s 30) (s 62) (s 63) (s 64) (s 72) (s 73) (s 74) w) : Tr (s6_p17_den K (fun s w => B1 [s 3, s 28, s 29, s 30] w) (fun s w => B2 [s 3, s 6, s 7, s 8, s 28, s 29, s 30, s 62, s 63, s 64] w) (fun s w => B3 [s 3, s 6, s 7, s 8, s 10, s 28, s 29, s 30, s 62, s 63, s 64, s 72, s 73, s 74] w) s w) :=
  tr_simple (P := Tryd.prog) (codes := [(cd (Tryd.f6.body.getD .skip) [1, 1, 1, 0, 1, 0, 0, 1, 1, 0, 0, 1, 1, 1, 1, 1, 1, 0, 1, 0, 0, 1, 1, 0, 0, 1, 1, 1, 0, 0, 0]), (cd (Tryd.f6.body.getD .skip) [1, 1, 1, 0, 1, 0, 0, 1, 1, 0, 0, 1, 1, 1, 1, 1, 1, 0, 1, 0, 0, 1, 1, 0, 0, 1, 1, 1, 0, 0, 1, 0]), (cd (Tryd.f6.body.getD .skip) [1, 1, 1, 0, 1, 0, 0, 1, 1, 0, 0, 1, 1, 1, 1, 1, 1, 0, 1, 0, 0, 1, 1, 0, 0, 1, 1, 1, 0, 0, 1, 1, 0]), (cd (Tryd.f6.body.getD .skip) [1, 1, 1, 0, 1, 0, 0, 1, 1, 0, 0, 1, 1, 1, 1, 1, 1, 0, 1, 0, 0, 1, 1, 0, 0, 1, 1, 1, 0, 0, 1, 1, 1])]) (N := (fun s w => B3 [s 3, s 6, s 7, s 8, s 10, s 28, s 29, s 30, s 62, s 63, s 64, s 72, s 73, s 74] w)) (N' := (fun s w => B3 [s 3, s 6, s 7, s 8, s 10, s 28, s 29, s 30, s 62, s 63, s 64, s 72, s 73, s 74] w)) (X := (fun i => (bif Nat.beq i 4 then (fun s w => s6_p16 K B1 B2 (s 3) (s 6) (s 7) (s 8) (s 28) (s 29) (s 30) (s 62) (s 63) (s 64) w) else (bif Nat.beq i 3 then (fun s w => s6_p16 K B1 B2 (s 3) (s 6) (s 7) (s 8) (s 28) (s 29) (s 30) (s 62) (s 63) (s 64) w) else (bif Nat.beq i 2 then (fun s w => s6_p15 K B1 (s 3) (s 6) (s 7) (s 8) (s 28) (s 29) (s 30) w) else (bif Nat.beq i 1 then (fun s w => s6_p2 K B1 (s 3) (s 28) (s 29) (s 30) w) else (bif Nat.beq i 0 then (fun s w => s6_p1 K w) else (fun _ _ => False)))))))) (X' := (fun i => (bif Nat.beq i 4 then (s6_p16_den K (fun s w => B1 [s 3, s 28, s 29, s 30] w) (fun s w => B2 [s 3, s 6, s 7, s 8, s 28, s 29, s 30, s 62, s 63, s 64] w)) else (bif Nat.beq i 3 then (s6_p16_den K (fun s w => B1 [s 3, s 28, s 29, s 30] w) (fun s w => B2 [s 3, s 6, s 7, s 8, s 28, s 29, s 30, s 62, s 63, s 64] w)) else (bif Nat.beq i 2 then (s6_p15_den K (fun s w => B1 [s 3, s 28, s 29, s 30] w)) else (bif Nat.beq i 1 then (s6_p2_den K (fun s w => B1 [s 3, s 28, s 29, s 30] w)) else (bif Nat.beq i 0 then (s6_p1_den K) else (fun _ _ => False)))))))) (R := s6_R K) (s := s) (w := w) (p := s6_p17 K B1 B2 B3 (s 3) (s 6) (s 7) (s 8) (s 10) (s 28) (s 29) (s 30) (s 62) (s 63) (s 64) (s 72) (s 73) (s 74) w) (q := s6_p17_den K (fun s w => B1 [s 3, s 28, s 29, s 30] w) (fun s w => B2 [s 3, s 6, s 7, s 8, s 28, s 29, s 30, s 62, s 63, s 64] w) (fun s w => B3 [s 3, s 6, s 7, s 8, s 10, s 28, s 29, s 30, s 62, s 63, s 64, s 72, s 73, s 74] w) s w) tr_id (fun i => (tr_bif (fun s w h => s6_p16_ok K B1 B2 s w @h) (tr_bif (fun s w h => s6_p16_ok K B1 B2 s w @h) (tr_bif (fun s w h => s6_p15_ok K B1 s w @h) (tr_bif (fun s w h => s6_p2_ok K B1 s w @h) (tr_bif (fun s w h => s6_p1_ok K s w @h) tr_id)))))) (by kernel_rfl) (by kernel_rfl) @h
def s6_p18_F (K : Value → World → Prop) (B1 : List Value → World → Prop) (B2 : List Value → World → Prop) (B3 : List Value → World → Prop) (l : List Value) (w : World) : Prop :=
  match l with
  | [t3, t6, t7, t8, t10, t28, t29, t30, t62, t63, t64, t72, t73, t74] => s6_p17 K B1 B2 B3 t3 t6 t7 t8 t10 t28 t29 t30 t62 t63 t64 t72 t73 t74 w
  | _ => False
theorem s6_p18_Fe {K : Value → World → Prop} {B1 : List Value → World → Prop} {B2 : List Value → World → Prop} {B3 : List Value → World → Prop} {t3 t6 t7 t8 t10 t28 t29 t30 t62 t63 t64 t72 t73 t74 : Value} {w : World} : s6_p18_F K B1 B2 B3 [t3, t6, t7, t8, t10, t28, t29, t30, t62, t63, t64, t72, t73, t74] w = s6_p17 K B1 B2 B3 t3 t6 t7 t8 t10 t28 t29 t30 t62 t63 t64 t72 t73 t74 w := by kernel_rfl
def s6_p18 (K : Value → World → Prop) (B1 : List Value → World → Prop) (B2 : List Value → World → Prop) (t3 t6 t7 t8 t10 t28 t29 t30 t62 t63 t64 t72 t73 t74 : Value) (w : World) : Prop :=
  LoopL (s6_p18_F K B1 B2) [t3, t6, t7, t8, t10, t28, t29, t30, t62, t63, t64, t72, t73, t74] w
def s6_p18_den (K : Value → World → Prop) (M1 : (Nat → Value) → World → Prop) (M2 : (Nat → Value) → World → Prop) : (Nat → Value) → World → Prop := fun s w => LoopP (fun M3 s w => s6_p17_den K M1 M2 M3 s w) s w
theorem s6_p18_ok (K : Value → World → Prop) (B1 : List Value → World → Prop) (B2 : List Value → World → Prop) (s : Nat → Value) (w : World) (h : s6_p18 K B1 B2 (s 3) (s 6) (s 7) (s 8) (s 10) (s 28) (s 29) (s 30) (s 62) (s 63) (s 64) (s 72) (s 73) (s 74) w) : Tr (s6_p18_den K (fun s w => B1 [s 3, s 28, s 29, s 30] w) (fun s w => B2 [s 3, s 6, s 7, s 8, s 28, s 29, s 30, s 62, s 63, s 64] w) s w) :=
  tr_loop (G := fun N' s w => s6_p17_den K (fun s w => B1 [s 3, s 28, s 29, s 30] w) (fun s w => B2 [s 3, s 6, s 7, s 8, s 28, s 29, s 30, s 62, s 63, s 64] w) N' s w) (F := s6_p18_F K B1 B2) (sel := fun s => [s 3, s 6, s 7, s 8, s 10, s 28, s 29, s 30, s 62, s 63, s 64, s 72, s 73, s 74]) (s := s) (w := w) (p := s6_p18 K B1 B2 (s 3) (s 6) (s 7) (s 8) (s 10) (s 28) (s 29) (s 30) (s 62) (s 63) (s 64) (s 72) (s 73) (s 74) w) (q := s6_p18_den K (fun s w => B1 [s 3, s 28, s 29, s 30] w) (fun s w => B2 [s 3, s 6, s 7, s 8, s 28, s 29, s 30, s 62, s 63, s 64] w) s w) (fun B s w h => s6_p17_ok K B1 B2 B s w @h) (by kernel_rfl) (by kernel_rfl) @h
def s6_p19 (K : Value → World → Prop) (B1 : List Value → World → Prop) (B2 : List Value → World → Prop) (t3 t6 t7 t8 t28 t29 t30 t62 t63 t64 : Value) (w : World) : Prop :=
  ixs 1 t62 t64 (fun t66 w =>
  ld1 t66 (fun t67 w =>
  cl Tryd.prog 21 #[t3, t67] (fun t70 w =>
  un .not t70 (fun t71 w =>
  ifb t71
  (K (.bool false) w)
  (lnS t7 (fun t73 w =>
  s6_p18 K B1 B2 t3 t6 t7 t8 t67 t28 t29 t30 t62 t63 t64 t7 t73 (.int .i64 0) w) w)) w) w) w) w
def s6_p19_den (K : Value → World → Prop) (M1 : (Nat → Value) → World → Prop) (M2 : (Nat → Value) → World → Prop) : (Nat → Value) → World → Prop := denL Tryd.prog [(cd (Tryd.f6.body.getD .skip) [1, 1, 1, 0, 1, 0, 0, 1, 1, 0, 0, 1, 1, 1, 1, 1, 1, 0, 1, 0, 0, 1, 1, 0, 0, 0]), (cd (Tryd.f6.body.getD .skip) [1, 1, 1, 0, 1, 0, 0, 1, 1, 0, 0, 1, 1, 1, 1, 1, 1, 0, 1, 0, 0, 1, 1, 0, 0, 1, 0, 0]), (cd (Tryd.f6.body.getD .skip) [1, 1, 1, 0, 1, 0, 0, 1, 1, 0, 0, 1, 1, 1, 1, 1, 1, 0, 1, 0, 0, 1, 1, 0, 0, 1, 0, 1]), (cd (Tryd.f6.body.getD .skip) [1, 1, 1, 0, 1, 0, 0, 1, 1, 0, 0, 1, 1, 1, 1, 1, 1, 0, 1, 0, 0, 1, 1, 0, 0, 1, 1, 0])] (s6_p18_den K M1 M2) (fun i => (bif Nat.beq i 3 then (s6_p16_den K M1 M2) else (bif Nat.beq i 2 then (s6_p15_den K M1) else (bif Nat.beq i 1 then (s6_p2_den K M1) else (bif Nat.beq i 0 then (s6_p1_den K) else (fun _ _ => False)))))) (s6_R K)
theorem s6_p19_ok (K : Value → World → Prop) (B1 : List Value → World → Prop) (B2 : List Value → World → Prop) (s : Nat → Value) (w : World) (h : s6_p19 K B1 B2 (s 3) (s 6) (s 7) (s 8) (s 28) (s 29) (s 30) (s 62) (s 63) (s 64) w) : Tr (s6_p19_den K (fun s w => B1 [s 3, s 28, s 29, s 30] w) (fun s w => B2 [s 3, s 6, s 7, s 8, s 28, s 29, s 30, s 62, s 63, s 64] w) s w) :=
  tr_simple (P := Tryd.prog) (codes := [(cd (Tryd.f6.body.getD .skip) [1, 1, 1, 0, 1, 0, 0, 1, 1, 0, 0, 1, 1, 1, 1, 1, 1, 0, 1, 0, 0, 1, 1, 0, 0, 0]), (cd (Tryd.f6.body.getD .skip) [1, 1, 1, 0, 1, 0, 0, 1, 1, 0, 0, 1, 1, 1, 1, 1, 1, 0, 1, 0, 0, 1, 1, 0, 0, 1, 0, 0]), (cd (Tryd.f6.body.getD .skip) [1, 1, 1, 0, 1, 0, 0, 1, 1, 0, 0, 1, 1, 1, 1, 1, 1, 0, 1, 0, 0, 1, 1, 0, 0, 1, 0, 1]), (cd (Tryd.f6.body.getD .skip) [1, 1, 1, 0, 1, 0, 0, 1, 1, 0, 0, 1, 1, 1, 1, 1, 1, 0, 1, 0, 0, 1, 1, 0, 0, 1, 1, 0])]) (N := (fun s w => s6_p18 K B1 B2 (s 3) (s 6) (s 7) (s 8) (s 10) (s 28) (s 29) (s 30) (s 62) (s 63) (s 64) (s 72) (s 73) (s 74) w)) (N' := (s6_p18_den K (fun s w => B1 [s 3, s 28, s 29, s 30] w) (fun s w => B2 [s 3, s 6, s 7, s 8, s 28, s 29, s 30, s 62, s 63, s 64] w))) (X := (fun i => (bif Nat.beq i 3 then (fun s w => s6_p16 K B1 B2 (s 3) (s 6) (s 7) (s 8) (s 28) (s 29) (s 30) (s 62) (s 63) (s 64) w) else (bif Nat.beq i 2 then (fun s w => s6_p15 K B1 (s 3) (s 6) (s 7) (s 8) (s 28) (s 29) (s 30) w) else (bif Nat.beq i 1 then (fun s w => s6_p2 K B1 (s 3) (s 28) (s 29) (s 30) w) else (bif Nat.beq i 0 then (fun s w => s6_p1 K w) else (fun _ _ => False))))))) (X' := (fun i => (bif Nat.beq i 3 then (s6_p16_den K (fun s w => B1 [s 3, s 28, s 29, s 30] w) (fun s w => B2 [s 3, s 6, s 7, s 8, s 28, s 29, s 30, s 62, s 63, s 64] w)) else (bif Nat.beq i 2 then (s6_p15_den K (fun s w => B1 [s 3, s 28, s 29, s 30] w)) else (bif Nat.beq i 1 then (s6_p2_den K (fun s w => B1 [s 3, s 28, s 29, s 30] w)) else (bif Nat.beq i 0 then (s6_p1_den K) else (fun _ _ => False))))))) (R := s6_R K) (s := s) (w := w) (p := s6_p19 K B1 B2 (s 3) (s 6) (s 7) (s 8) (s 28) (s 29) (s 30) (s 62) (s 63) (s 64) w) (q := s6_p19_den K (fun s w => B1 [s 3, s 28, s 29, s 30] w) (fun s w => B2 [s 3, s 6, s 7, s 8, s 28, s 29, s 30, s 62, s 63, s 64] w) s w) (fun s w h => s6_p18_ok K B1 B2 s w @h) (fun i => (tr_bif (fun s w h => s6_p16_ok K B1 B2 s w @h) (tr_bif (fun s w h => s6_p15_ok K B1 s w @h) (tr_bif (fun s w h => s6_p2_ok K B1 s w @h) (tr_bif (fun s w h => s6_p1_ok K s w @h) tr_id))))) (by kernel_rfl) (by kernel_rfl) @h
def s6_p20 (K : Value → World → Prop) (B1 : List Value → World → Prop) (B2 : List Value → World → Prop) (t3 t6 t7 t8 t28 t29 t30 t62 t63 t64 : Value) (w : World) : Prop :=
  boI .lss t64 t63 (fun t65 w =>
  ifb t65
  (s6_p19 K B1 B2 t3 t6 t7 t8 t28 t29 t30 t62 t63 t64 w)
  (s6_p15 K B1 t3 t6 t7 t8 t28 t29 t30 w)) w
def s6_p20_den (K : Value → World → Prop) (M1 : (Nat → Value) → World → Prop) (M2 : (Nat → Value) → World → Prop) : (Nat → Value) → World → Prop := denL Tryd.prog [(cd (Tryd.f6.body.getD .skip) [1, 1, 1, 0, 1, 0, 0, 1, 1, 0, 0, 1, 1, 1, 1, 1, 1, 0, 1, 0, 0, 0]), (cd (Tryd.f6.body.getD .skip) [1, 1, 1, 0, 1, 0, 0, 1, 1, 0, 0, 1, 1, 1, 1, 1, 1, 0, 1, 0, 0, 1, 0])] (s6_p19_den K M1 M2) (fun i => (bif Nat.beq i 2 then (s6_p15_den K M1) else (bif Nat.beq i 1 then (s6_p2_den K M1) else (bif Nat.beq i 0 then (s6_p1_den K) else (fun _ _ => False))))) (s6_R K)
theorem s6_p20_ok (K : Value → World → Prop) (B1 : List Value → World → Prop) (B2 : List Value → World → Prop) (s : Nat → Value) (w : World) (h : s6_p20 K B1 B2 (s 3) (s 6) (s 7) (s 8) (s 28) (s 29) (s 30) (s 62) (s 63) (s 64) w) : Tr (s6_p20_den K (fun s w => B1 [s 3, s 28, s 29, s 30] w) (fun s w => B2 [s 3, s 6, s 7, s 8, s 28, s 29, s 30, s 62, s 63, s 64] w) s w) :=
  tr_simple (P := Tryd.prog) (codes := [(cd (Tryd.f6.body.getD .skip) [1, 1, 1, 0, 1, 0, 0, 1, 1, 0, 0, 1, 1, 1, 1, 1, 1, 0, 1, 0, 0, 0]), (cd (Tryd.f6.body.getD .skip) [1, 1, 1, 0, 1, 0, 0, 1, 1, 0, 0, 1, 1, 1, 1, 1, 1, 0, 1, 0, 0, 1, 0])]) (N := (fun s w => s6_p19 K B1 B2 (s 3) (s 6) (s 7) (s 8) (s 28) (s 29) (s 30) (s 62) (s 63) (s 64) w)) (N' := (s6_p19_den K (fun s w => B1 [s 3, s 28, s 29, s 30] w) (fun s w => B2 [s 3, s 6, s 7, s 8, s 28, s 29, s 30, s 62, s 63, s 64] w))) (X := (fun i => (bif Nat.beq i 2 then (fun s w => s6_p15 K B1 (s 3) (s 6) (s 7) (s 8) (s 28) (s 29) (s 30) w) else (bif Nat.beq i 1 then (fun s w => s6_p2 K B1 (s 3) (s 28) (s 29) (s 30) w) else (bif Nat.beq i 0 then (fun s w => s6_p1 K w) else (fun _ _ => False)))))) (X' := (fun i => (bif Nat.beq i 2 then (s6_p15_den K (fun s w => B1 [s 3, s 28, s 29, s 30] w)) else (bif Nat.beq i 1 then (s6_p2_den K (fun s w => B1 [s 3, s 28, s 29, s 30] w)) else (bif Nat.beq i 0 then (s6_p1_den K) else (fun _ _ => False)))))) (R := s6_R K) (s := s) (w := w) (p := s6_p20 K B1 B2 (s 3) (s 6) (s 7) (s 8) (s 28) (s 29) (s 30) (s 62) (s 63) (s 64) w) (q := s6_p20_den K (fun s w => B1 [s 3, s 28, s 29, s 30] w) (fun s w => B2 [s 3, s 6, s 7, s 8, s 28, s 29, s 30, s 62, s 63, s 64] w) s w) (fun s w h => s6_p19_ok K B1 B2 s w @h) (fun i => (tr_bif (fun s w h => s6_p15_ok K B1 s w @h) (tr_bif (fun s w h => s6_p2_ok K B1 s w @h) (tr_bif (fun s w h => s6_p1_ok K s w @h) tr_id)))) (by kernel_rfl) (by kernel_rfl) @h
def s6_p21_F (K : Value → World → Prop) (B1 : List Value → World → Prop) (B2 : List Value → World → Prop) (l : List Value) (w : World) : Prop :=
  match l with
  | [t3, t6, t7, t8, t28, t29, t30, t62, t63, t64] => s6_p20 K B1 B2 t3 t6 t7 t8 t28 t29 t30 t62 t63 t64 w
  | _ => False
theorem s6_p21_Fe {K : Value → World → Prop} {B1 : List Value → World → Prop} {B2 : List Value → World → Prop} {t3 t6 t7 t8 t28 t29 t30 t62 t63 t64 : Value} {w : World} : s6_p21_F K B1 B2 [t3, t6, t7, t8, t28, t29, t30, t62, t63, t64] w = s6_p20 K B1 B2 t3 t6 t7 t8 t28 t29 t30 t62 t63 t64 w := by kernel_rfl
def s6_p21 (K : Value → World → Prop) (B1 : List Value → World → Prop) (t3 t6 t7 t8 t28 t29 t30 t62 t63 t64 : Value) (w : World) : Prop :=
  LoopL (s6_p21_F K B1) [t3, t6, t7, t8, t28, t29, t30, t62, t63, t64] w
def s6_p21_den (K : Value → World → Prop) (M1 : (Nat → Value) → World → Prop) : (Nat → Value) → World → Prop := fun s w => LoopP (fun M2 s w => s6_p20_den K M1 M2 s w) s w
theorem s6_p21_ok (K : Value → World → Prop) (B1 : List Value → World → Prop) (s : Nat → Value) (w : World) (h : s6_p21 K B1 (s 3) (s 6) (s 7) (s 8) (s 28) (s 29) (s 30) (s 62) (s 63) (s 64) w) : Tr (s6_p21_den K (fun s w => B1 [s 3, s 28, s 29, s 30] w) s w) :=
  tr_loop (G := fun N' s w => s6_p20_den K (fun s w => B1 [s 3, s 28, s 29, s 30] w) N' s w) (F := s6_p21_F K B1) (sel := fun s => [s 3, s 6, s 7, s 8, s 28, s 29, s 30, s 62, s 63, s 64]) (s := s) (w := w) (p := s6_p21 K B1 (s 3) (s 6) (s 7) (s 8) (s 28) (s 29) (s 30) (s 62) (s 63) (s 64) w) (q := s6_p21_den K (fun s w => B1 [s 3, s 28, s 29, s 30] w) s w) (fun B s w h => s6_p20_ok K B1 B s w @h) (by kernel_rfl) (by kernel_rfl) @h
def s6_p22 (K : Value → World → Prop) (B1 : List Value → World → Prop) (t3 t6 t7 t8 t28 t29 t30 : Value) (w : World) : Prop :=
  fd 8 t8 (fun t61 w =>
  ld1 t61 (fun t62 w =>
  lnS t62 (fun t63 w =>
  s6_p21 K B1 t3 t6 t7 t8 t28 t29 t30 t62 t63 (.int .i64 0) w) w) w) w
def s6_p22_den (K : Value → World → Prop) (M1 : (Nat → Value) → World → Prop) : (Nat → Value) → World → Prop := denL Tryd.prog [(cd (Tryd.f6.body.getD .skip) [1, 1, 1, 0, 1, 0, 0, 1, 1, 0, 0, 1, 1, 1, 1, 1, 1, 0, 0])] (s6_p21_den K M1) (fun i => (bif Nat.beq i 1 then (s6_p2_den K M1) else (bif Nat.beq i 0 then (s6_p1_den K) else (fun _ _ => False)))) (s6_R K)
theorem s6_p22_ok (K : Value → World → Prop) (B1 : List Value → World → Prop) (s : Nat → Value) (w : World) (h : s6_p22 K B1 (s 3) (s 6) (s 7) (s 8) (s 28) (s 29) (s 30) w) : Tr (s6_p22_den K (fun s w => B1 [s 3, s 28, s 29, s 30] w) s w) :=
  tr_simple (P := Tryd.prog) (codes := [(cd (Tryd.f6.body.getD .skip) [1, 1, 1, 0, 1, 0, 0, 1, 1, 0, 0, 1, 1, 1, 1, 1, 1, 0, 0])]) (N := (fun s w => s6_p21 K B1 (s 3) (s 6) (s 7) (s 8) (s 28) (s 29) (s 30) (s 62) (s 63) (s 64) w)) (N' := (s6_p21_den K (fun s w => B1 [s 3, s 28, s 29, s 30] w))) (X := (fun i => (bif Nat.beq i 1 then (fun s w => s6_p2 K B1 (s 3) (s 28) (s 29) (s 30) w) else (bif Nat.beq i 0 then (fun s w => s6_p1 K w) else (fun _ _ => False))))) (X' := (fun i => (bif Nat.beq i 1 then (s6_p2_den K (fun s w => B1 [s 3, s 28, s 29, s 30] w)) else (bif Nat.beq i 0 then (s6_p1_den K) else (fun _ _ => False))))) (R := s6_R K) (s := s) (w := w) (p := s6_p22 K B1 (s 3) (s 6) (s 7) (s 8) (s 28) (s 29) (s 30) w) (q := s6_p22_den K (fun s w => B1 [s 3, s 28, s 29, s 30] w) s w) (fun s w h => s6_p21_ok K B1 s w @h) (fun i => (tr_bif (fun s w h => s6_p2_ok K B1 s w @h) (tr_bif (fun s w h => s6_p1_ok K s w @h) tr_id))) (by kernel_rfl) (by kernel_rfl) @h
def s6_p23 (K : Value → World → Prop) (B1 : List Value → World → Prop) (t3 t28 t29 t30 : Value) (w : World) : Prop :=
  ixs 4 t28 t30 (fun t32 w =>
  ldn 4 t32 (fun t33 w =>
  nw 28 #[(.int .u8 0), (.int .i64 0), (.int .i64 0), (.int .i64 0)] (fun t5 w =>
  stn 4 t5 t33 (fun w =>
  fd 0 t5 (fun t34 w =>
  ld1 t34 (fun t35 w =>
  boI .eql t35 (.int .u8 8) (fun t36 w =>
  gd t36 false (fd 0 t5) (fun t38 w =>
  gd t36 false (ld1 t38) (fun t39 w =>
  gd t36 false (boI .eql t39 (.int .u8 7)) (fun t40 w =>
  pk t36 (.bool true) t40 (fun t41 w =>
  ifb t41
  (s6_p2 K B1 t3 t28 t29 t30 w)
  (ldn 4 t5 (fun t43 w =>
  cl Tryd.prog 13 #[t3, t43] (fun t44 w =>
  nw 33 #[(.int .u8 0), (.int .i64 0), (.int .u32 0), (.int .i64 0), (.int .i64 0), (.int .i64 0)] (fun t6 w =>
  stn 6 t6 t44 (fun w =>
  nck t3 (fun t46 w =>
  fd 3 t46 (fun t47 w =>
  ld1 t47 (fun t48 w =>
  apq 66 [(.int .i64 0), (.int .u32 0), (.slice none 0 0)] 40 (.slice none 0 0) t48 (fun t49 w =>
  ldn 6 t6 (fun t51 w =>
  cl Tryd.prog 14 #[t3, t51] (fun t52 w =>
  nw 41 #[(.int .i64 0), (.int .i64 0), (.int .u32 0), (.int .u32 0), (.int .u32 0), (.int .u32 0), (.int .u64 0), (.int .u64 0), (.slice none 0 0)] (fun t8 w =>
  stn 9 t8 t52 (fun w =>
  fd 0 t6 (fun t53 w =>
  ld1 t53 (fun t54 w =>
  boI .eql t54 (.int .u8 0) (fun t55 w =>
  gd t55 true (fd 0 t8) (fun t57 w =>
  gd t55 true (ld1 t57) (fun t58 w =>
  gd t55 true (boI .eql t58 (.int .i64 0)) (fun t59 w =>
  pk t55 t59 (.bool false) (fun t60 w =>
  ifb t60
  (s6_p22 K B1 t3 t6 (.slice none 0 0) t8 t28 t29 t30 w)
  (s6_p22 K B1 t3 t6 t49 t8 t28 t29 t30 w)) w) w) w) w) w) w) w) w) w) w) w) w) w) w) w) w) w) w) w)) w) w) w) w) w) w) w) w) w) w) w
def s6_p23_den (K : Value → World → Prop) (M1 : (Nat → Value) → World → Prop) : (Nat → Value) → World → Prop := denL Tryd.prog [(cd (Tryd.f6.body.getD .skip) [1, 1, 1, 0, 1, 0, 0, 1, 1, 0, 0, 0]), (cd (Tryd.f6.body.getD .skip) [1, 1, 1, 0, 1, 0, 0, 1, 1, 0, 0, 1, 0, 0]), (cd (Tryd.f6.body.getD .skip) [1, 1, 1, 0, 1, 0, 0, 1, 1, 0, 0, 1, 0, 1]), (cd (Tryd.f6.body.getD .skip) [1, 1, 1, 0, 1, 0, 0, 1, 1, 0, 0, 1, 1, 0]), (cd (Tryd.f6.body.getD .skip) [1, 1, 1, 0, 1, 0, 0, 1, 1, 0, 0, 1, 1, 1, 0]), (cd (Tryd.f6.body.getD .skip) [1, 1, 1, 0, 1, 0, 0, 1, 1, 0, 0, 1, 1, 1, 1, 0]), (cd (Tryd.f6.body.getD .skip) [1, 1, 1, 0, 1, 0, 0, 1, 1, 0, 0, 1, 1, 1, 1, 1, 0, 0]), (cd (Tryd.f6.body.getD .skip) [1, 1, 1, 0, 1, 0, 0, 1, 1, 0, 0, 1, 1, 1, 1, 1, 0, 1])] (s6_p22_den K M1) (fun i => (bif Nat.beq i 1 then (s6_p2_den K M1) else (bif Nat.beq i 0 then (s6_p1_den K) else (fun _ _ => False)))) (s6_R K)
theorem s6_p23_ok (K : Value → World → Prop) (B1 : List Value → World → Prop) (s : Nat → Value) (w : World) (h : s6_p23 K B1 (s 3) (s 28) (s 29) (s 30) w) : Tr (s6_p23_den K (fun s w => B1 [s 3, s 28, s 29, s 30] w) s w) :=
  tr_simple (P := Tryd.prog) (codes := [(cd (Tryd.f6.body.getD .skip) [1, 1, 1, 0, 1, 0, 0, 1, 1, 0, 0, 0]), (cd (Tryd.f6.body.getD .skip) [1, 1, 1, 0, 1, 0, 0, 1, 1, 0, 0, 1, 0, 0]), (cd (Tryd.f6.body.getD .skip) [1, 1, 1, 0, 1, 0, 0, 1, 1, 0, 0, 1, 0, 1]), (cd (Tryd.f6.body.getD .skip) [1, 1, 1, 0, 1, 0, 0, 1, 1, 0, 0, 1, 1, 0]), (cd (Tryd.f6.body.getD .skip) [1, 1, 1, 0, 1, 0, 0, 1, 1, 0, 0, 1, 1, 1, 0]), (cd (Tryd.f6.body.getD .skip) [1, 1, 1, 0, 1, 0, 0, 1, 1, 0, 0, 1, 1, 1, 1, 0]), (cd (Tryd.f6.body.getD .skip) [1, 1, 1, 0, 1, 0, 0, 1, 1, 0, 0, 1, 1, 1, 1, 1, 0, 0]), (cd (Tryd.f6.body.getD .skip) [1, 1, 1, 0, 1, 0, 0, 1, 1, 0, 0, 1, 1, 1, 1, 1, 0, 1])]) (N := (fun s w => s6_p22 K B1 (s 3) (s 6) (s 7) (s 8) (s 28) (s 29) (s 30) w)) (N' := (s6_p22_den K (fun s w => B1 [s 3, s 28, s 29, s 30] w))) (X := (fun i => (bif Nat.beq i 1 then (fun s w => s6_p2 K B1 (s 3) (s 28) (s 29) (s 30) w) else (bif Nat.beq i 0 then (fun s w => s6_p1 K w) else (fun _ _ => False))))) (X' := (fun i => (bif Nat.beq i 1 then (s6_p2_den K (fun s w => B1 [s 3, s 28, s 29, s 30] w)) else (bif Nat.beq i 0 then (s6_p1_den K) else (fun _ _ => False))))) (R := s6_R K) (s := s) (w := w) (p := s6_p23 K B1 (s 3) (s 28) (s 29) (s 30) w) (q := s6_p23_den K (fun s w => B1 [s 3, s 28, s 29, s 30] w) s w) (fun s w h => s6_p22_ok K B1 s w @h) (fun i => (tr_bif (fun s w h => s6_p2_ok K B1 s w @h) (tr_bif (fun s w h => s6_p1_ok K s w @h) tr_id))) (by kernel_rfl) (by kernel_rfl) @h
def s6_p24 (K : Value → World → Prop) (B1 : List Value → World → Prop) (t3 t28 t29 t30 : Value) (w : World) : Prop :=
  boI .lss t30 t29 (fun t31 w =>
  ifb t31
  (s6_p23 K B1 t3 t28 t29 t30 w)
  (s6_p1 K w)) w
def s6_p24_den (K : Value → World → Prop) (M1 : (Nat → Value) → World → Prop) : (Nat → Value) → World → Prop := denL Tryd.prog [(cd (Tryd.f6.body.getD .skip) [1, 1, 1, 0, 1, 0, 0, 0]), (cd (Tryd.f6.body.getD .skip) [1, 1, 1, 0, 1, 0, 0, 1, 0])] (s6_p23_den K M1) (fun i => (bif Nat.beq i 0 then (s6_p1_den K) else (fun _ _ => False))) (s6_R K)
theorem s6_p24_ok (K : Value → World → Prop) (B1 : List Value → World → Prop) (s : Nat → Value) (w : World) (h : s6_p24 K B1 (s 3) (s 28) (s 29) (s 30) w) : Tr (s6_p24_den K (fun s w => B1 [s 3, s 28, s 29, s 30] w) s w) :=
  tr_simple (P := Tryd.prog) (codes := [(cd (Tryd.f6.body.getD .skip) [1, 1, 1, 0, 1, 0, 0, 0]), (cd (Tryd.f6.body.getD .skip) [1, 1, 1, 0, 1, 0, 0, 1, 0])]) (N := (fun s w => s6_p23 K B1 (s 3) (s 28) (s 29) (s 30) w)) (N' := (s6_p23_den K (fun s w => B1 [s 3, s 28, s 29, s 30] w))) (X := (fun i => (bif Nat.beq i 0 then (fun s w => s6_p1 K w) else (fun _ _ => False)))) (X' := (fun i => (bif Nat.beq i 0 then (s6_p1_den K) else (fun _ _ => False)))) (R := s6_R K) (s := s) (w := w) (p := s6_p24 K B1 (s 3) (s 28) (s 29) (s 30) w) (q := s6_p24_den K (fun s w => B1 [s 3, s 28, s 29, s 30] w) s w) (fun s w h => s6_p23_ok K B1 s w @h) (fun i => (tr_bif (fun s w h => s6_p1_ok K s w @h) tr_id)) (by kernel_rfl) (by kernel_rfl) @h
def s6_p25_F (K : Value → World → Prop) (B1 : List Value → World → Prop) (l : List Value) (w : World) : Prop :=
  match l with
  | [t3, t28, t29, t30] => s6_p24 K B1 t3 t28 t29 t30 w
  | _ => False
theorem s6_p25_Fe {K : Value → World → Prop} {B1 : List Value → World → Prop} {t3 t28 t29 t30 : Value} {w : World} : s6_p25_F K B1 [t3, t28, t29, t30] w = s6_p24 K B1 t3 t28 t29 t30 w := by kernel_rfl
def s6_p25 (K : Value → World → Prop) (t3 t28 t29 t30 : Value) (w : World) : Prop :=
  LoopL (s6_p25_F K) [t3, t28, t29, t30] w
def s6_p25_den (K : Value → World → Prop) : (Nat → Value) → World → Prop := fun s w => LoopP (fun M1 s w => s6_p24_den K M1 s w) s w
theorem s6_p25_ok (K : Value → World → Prop) (s : Nat → Value) (w : World) (h : s6_p25 K (s 3) (s 28) (s 29) (s 30) w) : Tr (s6_p25_den K s w) :=
  tr_loop (G := fun N' s w => s6_p24_den K N' s w) (F := s6_p25_F K) (sel := fun s => [s 3, s 28, s 29, s 30]) (s := s) (w := w) (p := s6_p25 K (s 3) (s 28) (s 29) (s 30) w) (q := s6_p25_den K s w) (fun B s w h => s6_p24_ok K B s w @h) (by kernel_rfl) (by kernel_rfl) @h
def s6_p26 (K : Value → World → Prop) (t0 : Value) (w : World) : Prop :=
  cl Tryd.prog 11 #[t0] (fun t25 w =>
  un .not t25 (fun t26 w =>
  ifb t26
  (K (.bool true) w)
  (cl Tryd.prog 12 #[] (fun t27 w =>
  lnS t0 (fun t29 w =>
  s6_p25 K t27 t0 t29 (.int .i64 0) w) w) w)) w) w
def s6_p26_den (K : Value → World → Prop) : (Nat → Value) → World → Prop := denL Tryd.prog [(cd (Tryd.f6.body.getD .skip) [0]), (cd (Tryd.f6.body.getD .skip) [1, 0, 0]), (cd (Tryd.f6.body.getD .skip) [1, 0, 1]), (cd (Tryd.f6.body.getD .skip) [1, 1, 0]), (cd (Tryd.f6.body.getD .skip) [1, 1, 1, 0, 0])] (s6_p25_den K) (fun i => (fun _ _ => False)) (s6_R K)
theorem s6_p26_ok (K : Value → World → Prop) (s : Nat → Value) (w : World) (h : s6_p26 K (s 0) w) : Tr (s6_p26_den K s w) :=
  tr_simple (P := Tryd.prog) (codes := [(cd (Tryd.f6.body.getD .skip) [0]), (cd (Tryd.f6.body.getD .skip) [1, 0, 0]), (cd (Tryd.f6.body.getD .skip) [1, 0, 1]), (cd (Tryd.f6.body.getD .skip) [1, 1, 0]), (cd (Tryd.f6.body.getD .skip) [1, 1, 1, 0, 0])]) (N := (fun s w => s6_p25 K (s 3) (s 28) (s 29) (s 30) w)) (N' := (s6_p25_den K)) (X := (fun i => (fun _ _ => False))) (X' := (fun i => (fun _ _ => False))) (R := s6_R K) (s := s) (w := w) (p := s6_p26 K (s 0) w) (q := s6_p26_den K s w) (fun s w h => s6_p25_ok K s w @h) (fun i => tr_id) (by kernel_rfl) (by kernel_rfl) @h
/-- the call, from the text -/
theorem c6 (t0 : Value) {K : Value → World → Prop} {w : World} (h : s6_p26 K t0 w) : cl Tryd.prog 6 #[t0] K w :=
  calls_of_tr (c := (Tryd.f6.body.getD .skip)) (fn := Tryd.f6) (q := s6_p26_den K (st0 #[t0]) w) Tryd.func6 (by kernel_rfl) (by kernel_rfl) (Nat.le_of_ble_eq_true (by kernel_rfl)) (by kernel_rfl) (by kernel_rfl) (s6_p26_ok K (st0 #[t0]) w @h)

/-! ### function 7 : e2e.poollaw.KeepsContents -/
def s7_R (K : Value → World → Prop) (s : Nat → Value) (w : World) : Prop := retv Tryd.prog s Tryd.f7.results.toList (fun vs => K (pack vs) w) w
def s7_p1 (K : Value → World → Prop) (w : World) : Prop :=
  K (.bool true) w
def s7_p1_den (K : Value → World → Prop) : (Nat → Value) → World → Prop := denL Tryd.prog [(cd (Tryd.f7.body.getD .skip) [1, 1, 1, 1, 0]), (cd (Tryd.f7.body.getD .skip) [1, 1, 1, 1, 1])] (fun _ _ => False) (fun i => (fun _ _ => False)) (s7_R K)
theorem s7_p1_ok (K : Value → World → Prop) (s : Nat → Value) (w : World) (h : s7_p1 K w) : Tr (s7_p1_den K s w) :=
  tr_simple (P := Tryd.prog) (codes := [(cd (Tryd.f7.body.getD .skip) [1, 1, 1, 1, 0]), (cd (Tryd.f7.body.getD .skip) [1, 1, 1, 1, 1])]) (N := (fun _ _ => False)) (N' := (fun _ _ => False)) (X := (fun i => (fun _ _ => False))) (X' := (fun i => (fun _ _ => False))) (R := s7_R K) (s := s) (w := w) (p := s7_p1 K w) (q := s7_p1_den K s w) tr_id (fun i => tr_id) (by kernel_rfl) (by kernel_rfl) @h
def s7_p2 (K : Value → World → Prop) (B1 : List Value → World → Prop) (t3 t16 t17 t18 : Value) (w : World) : Prop :=
  boI .add t18 (.int .i64 1) (fun t69 w =>
  B1 [t3, t16, t17, t69] w) w
def s7_p2_den (K : Value → World → Prop) (M1 : (Nat → Value) → World → Prop) : (Nat → Value) → World → Prop := denL Tryd.prog [(cd (Tryd.f7.body.getD .skip) [1, 1, 1, 0, 1, 0, 0, 1, 1, 1])] M1 (fun i => (bif Nat.beq i 0 then (s7_p1_den K) else (fun _ _ => False))) (s7_R K)
theorem s7_p2_ok (K : Value → World → Prop) (B1 : List Value → World → Prop) (s : Nat → Value) (w : World) (h : s7_p2 K B1 (s 3) (s 16) (s 17) (s 18) w) : Tr (s7_p2_den K (fun s w => B1 [s 3, s 16, s 17, s 18] w) s w) :=
  tr_simple (P := Tryd.prog) (codes := [(cd (Tryd.f7.body.getD .skip) [1, 1, 1, 0, 1, 0, 0, 1, 1, 1])]) (N := (fun s w => B1 [s 3, s 16, s 17, s 18] w)) (N' := (fun s w => B1 [s 3, s 16, s 17, s 18] w)) (X := (fun i => (bif Nat.beq i 0 then (fun s w => s7_p1 K w) else (fun _ _ => False)))) (X' := (fun i => (bif Nat.beq i 0 then (s7_p1_den K) else (fun _ _ => False)))) (R := s7_R K) (s := s) (w := w) (p := s7_p2 K B1 (s 3) (s 16) (s 17) (s 18) w) (q := s7_p2_den K (fun s w => B1 [s 3, s 16, s 17, s 18] w) s w) tr_id (fun i => (tr_bif (fun s w h => s7_p1_ok K s w @h) tr_id)) (by kernel_rfl) (by kernel_rfl) @h
def s7_p3 (K : Value → World → Prop) (B1 : List Value → World → Prop) (B2 : List Value → World → Prop) (t3 t16 t17 t18 t33 t34 t35 : Value) (w : World) : Prop :=
  boI .add t35 (.int .i64 1) (fun t68 w =>
  B2 [t3, t16, t17, t18, t33, t34, t68] w) w
def s7_p3_den (K : Value → World → Prop) (M1 : (Nat → Value) → World → Prop) (M2 : (Nat → Value) → World → Prop) : (Nat → Value) → World → Prop := denL Tryd.prog [(cd (Tryd.f7.body.getD .skip) [1, 1, 1, 0, 1, 0, 0, 1, 1, 0, 0, 1, 1, 1, 1, 0, 0, 1, 1, 1])] M2 (fun i => (bif Nat.beq i 2 then (s7_p2_den K M1) else (bif Nat.beq i 1 then (s7_p2_den K M1) else (bif Nat.beq i 0 then (s7_p1_den K) else (fun _ _ => False))))) (s7_R K)
theorem s7_p3_ok (K : Value → World → Prop) (B1 : List Value → World → Prop) (B2 : List Value → World → Prop) (s : Nat → Value) (w : World) (h : s7_p3 K B1 B2 (s 3) (s 16) (s 17) (s 18) (s 33) (s 34) (s 35) w) : Tr (s7_p3_den K (fun s w => B1 [s 3, s 16, s 17, s 18] w) (fun s w => B2 [s 3, s 16, s 17, s 18, s 33, s 34, s 35] w) s w) :=
  tr_simple (P := Tryd.prog) (codes := [(cd (Tryd.f7.body.getD .skip) [1, 1, 1, 0, 1, 0, 0, 1, 1, 0, 0, 1, 1, 1, 1, 0, 0, 1, 1, 1])]) (N := (fun s w => B2 [s 3, s 16, s 17, s 18, s 33, s 34, s 35] w)) (N' := (fun s w => B2 [s 3, s 16, s 17, s 18, s 33, s 34, s 35] w)) (X := (fun i => (bif Nat.beq i 2 then (fun s w => s7_p2 K B1 (s 3) (s 16) (s 17) (s 18) w) else (bif Nat.beq i 1 then (fun s w => s7_p2 K B1 (s 3) (s 16) (s 17) (s 18) w) else (bif Nat.beq i 0 then (fun s w => s7_p1 K w) else (fun _ _ => False)))))) (X' := (fun i => (bif Nat.beq i 2 then (s7_p2_den K (fun s w => B1 [s 3, s 16, s 17, s 18] w)) else (bif Nat.beq i 1 then (s7_p2_den K (fun s w => B1 [s 3, s 16, s 17, s 18] w)) else (bif Nat.beq i 0 then (s7_p1_den K) else (fun _ _ => False)))))) (R := s7_R K) (s := s) (w := w) (p := s7_p3 K B1 B2 (s 3) (s 16) (s 17) (s 18) (s 33) (s 34) (s 35) w) (q := s7_p3_den K (fun s w => B1 [s 3, s 16, s 17, s 18] w) (fun s w => B2 [s 3, s 16, s 17, s 18, s 33, s 34, s 35] w) s w) tr_id (fun i => (tr_bif (fun s w h => s7_p2_ok K B1 s w @h) (tr_bif (fun s w h => s7_p2_ok K B1 s w @h) (tr_bif (fun s w h => s7_p1_ok K s w @h) tr_id)))) (by kernel_rfl) (by kernel_rfl) @h
def s7_p4 (K : Value → World → Prop) (B1 : List Value → World → Prop) (B2 : List Value → World → Prop) (B3 : List Value → World → Prop) (t3 t7 t16 t17 t18 t33 t34 t35 t40 t41 t42 : Value) (w : World) : Prop :=
  boI .add t42 (.int .i64 1) (fun t67 w =>
  B3 [t3, t7, t16, t17, t18, t33, t34, t35, t40, t41, t67] w) w
def s7_p4_den (K : Value → World → Prop) (M1 : (Nat → Value) → World → Prop) (M2 : (Nat → Value) → World → Prop) (M3 : (Nat → Value) → World → Prop) : (Nat → Value) → World → Prop := denL Tryd.prog [(cd (Tryd.f7.body.getD .skip) [1, 1, 1, 0, 1, 0, 0, 1, 1, 0, 0, 1, 1, 1, 1, 0, 0, 1, 1, 0, 0, 1, 1, 0, 0, 1, 1, 1])] M3 (fun i => (bif Nat.beq i 4 then (s7_p3_den K M1 M2) else (bif Nat.beq i 3 then (s7_p3_den K M1 M2) else (bif Nat.beq i 2 then (s7_p2_den K M1) else (bif Nat.beq i 1 then (s7_p2_den K M1) else (bif Nat.beq i 0 then (s7_p1_den K) else (fun _ _ => False))))))) (s7_R K)
theorem s7_p4_ok (K : Value → World → Prop) (B1 : List Value → World → Prop) (B2 : List Value → World → Prop) (B3 : List Value → World → Prop) (s : Nat → Value) (w : World) (h : s7_p4 K B1 B2 B3 (s 3) (s 7) (s 16) (s 17) (s 18) (s 33) (s 34) (s 35) (s 40) (s 41) (s 42) w) : Tr (s7_p4_den K (fun s w => B1 [s 3, s 16, s 17, s 18] w) (fun s w => B2 [s 3, s 16, s 17, s 18, s 33, s 34, s 35] w) (fun s w => B3 [s 3, s 7, s 16, s 17, s 18, s 33, s 34, s 35, s 40, s 41, s 42] w) s w) :=
  tr_simple (P := Tryd.prog) (codes := [(cd (Tryd.f7.body.getD .skip) [1, 1, 1, 0, 1, 0, 0, 1, 1, 0, 0, 1, 1, 1, 1, 0, 0, 1, 1, 0, 0, 1, 1, 0, 0, 1, 1, 1])]) (N := (fun s w => B3 [s 3, s 7, s 16, s 17, s 18, s 33, s 34, s 35, s 40, s 41, s 42] w)) (N' := (fun s w => B3 [s 3, s 7, s 16, s 17, s 18, s 33, s 34, s 35, s 40, s 41, s 42] w)) (X := (fun i => (bif Nat.beq i 4 then (fun s w => s7_p3 K B1 B2 (s 3) (s 16) (s 17) (s 18) (s 33) (s 34) (s 35) w) else (bif Nat.beq i 3 then (fun s w => s7_p3 K B1 B2 (s 3) (s 16) (s 17) (s 18) (s 33) (s 34) (s 35) w) else (bif Nat.beq i 2 then (fun s w => s7_p2 K B1 (s 3) (s 16) (s 17) (s 18) w) else (bif Nat.beq i 1 then (fun s w => s7_p2 K B1 (s 3) (s 16) (s 17) (s 18) w) else (bif Nat.beq i 0 then (fun s w => s7_p1 K w) else (fun _ _ => False)))))))) (X' := (fun i => (bif Nat.beq i 4 then (s7_p3_den K (fun s w => B1 [s 3, s 16, s 17, s 18] w) (fun s w => B2 [s 3, s 16, s 17, s 18, s 33, s 34, s 35] w)) else (bif Nat.beq i 3 then (s7_p3_den K (fun s w => B1 [s 3, s 16, s 17, s 18] w) (fun s w => B2 [s 3, s 16, s 17, s 18, s 33, s 34, s 35] w)) else (bif Nat.beq i 2 then (s7_p2_den K (fun s w => B1 [s 3, s 16, s 17, s 18] w)) else (bif Nat.beq i 1 then (s7_p2_den K (fun s w => B1 [s 3, s 16, s 17, s 18] w)) else (bif Nat.beq i 0 then (s7_p1_den K) else (fun _ _ => False)))))))) (R := s7_R K) (s := s) (w := w) (p := s7_p4 K B1 B2 B3 (s 3) (s 7) (s 16) (s 17) (s 18) (s 33) (s 34) (s 35) (s 40) (s 41) (s 42) w) (q := s7_p4_den K (fun s w => B1 [s 3, s 16, s 17, s 18] w) (fun s w => B2 [s 3, s 16, s 17, s 18, s 33, s 34, s 35] w) (fun s w => B3 [s 3, s 7, s 16, s 17, s 18, s 33, s 34, s 35, s 40, s 41, s 42] w) s w) tr_id (fun i => (tr_bif (fun s w h => s7_p3_ok K B1 B2 s w @h) (tr_bif (fun s w h => s7_p3_ok K B1 B2 s w @h) (tr_bif (fun s w h => s7_p2_ok K B1 s w @h) (tr_bif (fun s w h => s7_p2_ok K B1 s w @h) (tr_bif (fun s w h => s7_p1_ok K s w @h) tr_id)))))) (by kernel_rfl) (by kernel_rfl) @h
def s7_p5 (K : Value → World → Prop) (B1 : List Value → World → Prop) (B2 : List Value → World → Prop) (B3 : List Value → World → Prop) (t3 t7 t9 t10 t11 t16 t17 t18 t33 t34 t35 t40 t41 t42 : Value) (w : World) : Prop :=
  boI .neq t11 (.int .i64 0) (fun t61 w =>
  gd t61 false (fun K w => K t10 w) (fun t63 w =>
  gd t61 false (fun K w => K t9 w) (fun t64 w =>
  gd t61 false (boI .neq t63 t64) (fun t65 w =>
  pk t61 (.bool true) t65 (fun t66 w =>
  ifb t66
  (K (.bool false) w)
  (s7_p4 K B1 B2 B3 t3 t7 t16 t17 t18 t33 t34 t35 t40 t41 t42 w)) w) w) w) w) w
def s7_p5_den (K : Value → World → Prop) (M1 : (Nat → Value) → World → Prop) (M2 : (Nat → Value) → World → Prop) (M3 : (Nat → Value) → World → Prop) : (Nat → Value) → World → Prop := denL Tryd.prog [(cd (Tryd.f7.body.getD .skip) [1, 1, 1, 0, 1, 0, 0, 1, 1, 0, 0, 1, 1, 1, 1, 0, 0, 1, 1, 0, 0, 1, 1, 0, 0, 1, 1, 0, 0, 1, 1, 0]), (cd (Tryd.f7.body.getD .skip) [1, 1, 1, 0, 1, 0, 0, 1, 1, 0, 0, 1, 1, 1, 1, 0, 0, 1, 1, 0, 0, 1, 1, 0, 0, 1, 1, 0, 0, 1, 1, 1])] (s7_p4_den K M1 M2 M3) (fun i => (bif Nat.beq i 5 then (s7_p4_den K M1 M2 M3) else (bif Nat.beq i 4 then (s7_p3_den K M1 M2) else (bif Nat.beq i 3 then (s7_p3_den K M1 M2) else (bif Nat.beq i 2 then (s7_p2_den K M1) else (bif Nat.beq i 1 then (s7_p2_den K M1) else (bif Nat.beq i 0 then (s7_p1_den K) else (fun _ _ => False)))))))) (s7_R K)
theorem s7_p5_ok (K : Value → World → Prop) (B1 : List Value → World → Prop) (B2 : List Value → World → Prop) (B3 : List Value → World → Prop) (s : Nat → Value) (w : World) (h : s7_p5 K B1 B2 B3 (s 3) (s 7) (s 9) (s 10) (s 11) (s 16) (s 17) (s 18) (s 33) (s 34) (s 35) (s 40) (s 41) (s 42) w) : Tr (s7_p5_den K (fun s w => B1 [s 3, s 16, s 17, s 18] w) (fun s w => B2 [s 3, s 16, s 17, s 18, s 33, s 34, s 35] w) (fun s w => B3 [s 3, s 7, s 16, s 17, s 18, s 33, s 34, s 35, s 40, s 41, s 42] w) s w) :=
  tr_simple (P := Tryd.prog) (codes := [(cd (Tryd.f7.body.getD .skip) [1, 1, 1, 0, 1, 0, 0, 1, 1, 0, 0, 1, 1, 1, 1, 0, 0, 1, 1, 0, 0, 1, 1, 0, 0, 1, 1, 0, 0, 1, 1, 0]), (cd (Tryd.f7.body.getD .skip) [1, 1, 1, 0, 1, 0, 0, 1, 1, 0, 0, 1, 1, 1, 1, 0, 0, 1, 1, 0, 0, 1, 1, 0, 0, 1, 1, 0, 0, 1, 1, 1])]) (N := (fun s w => s7_p4 K B1 B2 B3 (s 3) (s 7) (s 16) (s 17) (s 18) (s 33) (s 34) (s 35) (s 40) (s 41) (s 42) w)) (N' := (s7_p4_den K (fun s w => B1 [s 3, s 16, s 17, s 18] w) (fun s w => B2 [s 3, s 16, s 17, s 18, s 33, s 34, s 35] w) (fun s w => B3 [s 3, s 7, s 16, s 17, s 18, s 33, s 34, s 35, s 40, s 41, s 42] w))) (X := (fun i => (bif Nat.beq i 5 then (fun s w => s7_p4 K B1 B2 B3 (s 3) (s 7) (s 16) (s 17) (s 18) (s 33) (s 34) (s 35) (s 40) (s 41) (s 42) w) else (bif Nat.beq i 4 then (fun s w => s7_p3 K B1 B2 (s 3) (s 16) (s 17) (s 18) (s 33) (s 34) (s 35) w) else (bif Nat.beq i 3 then (fun s w => s7_p3 K B1 B2 (s 3) (s 16) (s 17) (s 18) (s 33) (s 34) (s 35) w) else (bif Nat.beq i 2 then (fun s w => s7_p2 K B1 (s 3) (s 16) (s 17) (s 18) w) else (bif Nat.beq i 1 then (fun s w => s7_p2 K B1 (s 3) (s 16) (s 17) (s 18) w) else (bif Nat.beq i 0 then (fun s w => s7_p1 K w) else (fun _ _ => False))))))))) (X' := (fun i => (bif Nat.beq i 5 then (s7_p4_den K (fun s w => B1 [s 3, s 16, s 17, s 18] w) (fun s w => B2 [s 3, s 16, s 17, s 18, s 33, s 34, s 35] w) (fun s w => B3 [s 3, s 7, s 16, s 17, s 18, s 33, s 34, s 35, s 40, s 41, s 42] w)) else (bif Nat.beq i 4 then (s7_p3_den K (fun s w => B1 [s 3, s 16, s 17, s 18] w) (fun s w => B2 [s 3, s 16, s 17, s 18, s 33, s 34, s 35] w)) else (bif Nat.beq i 3 then (s7_p3_den K (fun s w => B1 [s 3, s 16, s 17, s 18] w) (fun s w => B2 [s 3, s 16, s 17, s 18, s 33, s 34, s 35] w)) else (bif Nat.beq i 2 then (s7_p2_den K (fun s w => B1 [s 3, s 16, s 17, s 18] w)) else (bif Nat.beq i 1 then (s7_p2_den K (fun s w => B1 [s 3, s 16, s 17, s 18] w)) else (bif Nat.beq i 0 then (s7_p1_den K) else (fun _ _ => False))))))))) (R := s7_R K) (s := s) (w := w) (p := s7_p5 K B1 B2 B3 (s 3) (s 7) (s 9) (s 10) (s 11) (s 16) (s 17) (s 18) (s 33) (s 34) (s 35) (s 40) (s 41) (s 42) w) (q := s7_p5_den K (fun s w => B1 [s 3, s 16, s 17, s 18] w) (fun s w => B2 [s 3, s 16, s 17, s 18, s 33, s 34, s 35] w) (fun s w => B3 [s 3, s 7, s 16, s 17, s 18, s 33, s 34, s 35, s 40, s 41, s 42] w) s w) (fun s w h => s7_p4_ok K B1 B2 B3 s w @h) (fun i => (tr_bif (fun s w h => s7_p4_ok K B1 B2 B3 s w @h) (tr_bif (fun s w h => s7_p3_ok K B1 B2 s w @h) (tr_bif (fun s w h => s7_p3_ok K B1 B2 s w @h) (tr_bif (fun s w h => s7_p2_ok K B1 s w @h) (tr_bif (fun s w h => s7_p2_ok K B1 s w @h) (tr_bif (fun s w h => s7_p1_ok K s w @h) tr_id))))))) (by kernel_rfl) (by kernel_rfl) @h
def s7_p6_d (K : Value → World → Prop) (B1 : List Value → World → Prop) (B2 : List Value → World → Prop) (B3 : List Value → World → Prop) (t3 t7 t8 t9 t16 t17 t18 t33 t34 t35 t40 t41 t42 : Value) (w0 w : World) : Prop :=
  nck t3 (fun t49 _ =>
  fd 0 t49 (fun t50 _ =>
  ld1 t50 (fun t51 _ =>
  fd 1 t7 (fun t52 _ =>
  ld1 t52 (fun t53 _ =>
  cvi .u32 t8 (fun t55 _ =>
  boI .add t53 t55 (fun t56 _ =>
  cl Tryd.prog 23 #[t51, t56] (fun t57 w =>
  (exq t57 0 (fun t58 w =>
  (exq t57 1 (fun t59 w =>
  s7_p5 K B1 B2 B3 t3 t7 t9 t58 t59 t16 t17 t18 t33 t34 t35 t40 t41 t42 w) w) ∧
  (exq t57 1 (fun t59_2 w =>
  s7_p5 K B1 B2 B3 t3 t7 t9 t58 t59_2 t16 t17 t18 t33 t34 t35 t40 t41 t42 w) w)) w) ∧
  (exq t57 1 (fun t59_3 w =>
  exq t57 0 (fun t58_2 w =>
  s7_p5 K B1 B2 B3 t3 t7 t9 t58_2 t59_3 t16 t17 t18 t33 t34 t35 t40 t41 t42 w) w) w)) w) w0) w0) w0) w0) w0) w0) w0
def s7_p6 (K : Value → World → Prop) (B1 : List Value → World → Prop) (B2 : List Value → World → Prop) (B3 : List Value → World → Prop) (t3 t7 t8 t9 t16 t17 t18 t33 t34 t35 t40 t41 t42 : Value) (w : World) : Prop := s7_p6_d K B1 B2 B3 t3 t7 t8 t9 t16 t17 t18 t33 t34 t35 t40 t41 t42 (drw w) (drw w)
def s7_p6_den (K : Value → World → Prop) (M1 : (Nat → Value) → World → Prop) (M2 : (Nat → Value) → World → Prop) (M3 : (Nat → Value) → World → Prop) : (Nat → Value) → World → Prop := denL Tryd.prog [(cd (Tryd.f7.body.getD .skip) [1, 1, 1, 0, 1, 0, 0, 1, 1, 0, 0, 1, 1, 1, 1, 0, 0, 1, 1, 0, 0, 1, 1, 0, 0, 1, 1, 0, 0, 1, 0])] (s7_p5_den K M1 M2 M3) (fun i => (bif Nat.beq i 5 then (s7_p4_den K M1 M2 M3) else (bif Nat.beq i 4 then (s7_p3_den K M1 M2) else (bif Nat.beq i 3 then (s7_p3_den K M1 M2) else (bif Nat.beq i 2 then (s7_p2_den K M1) else (bif Nat.beq i 1 then (s7_p2_den K M1) else (bif Nat.beq i 0 then (s7_p1_den K) else (fun _ _ => False)))))))) (s7_R K)
theorem s7_p6_ok (K : Value → World → Prop) (B1 : List Value → World → Prop) (B2 : List Value → World → Prop) (B3 : List Value → World → Prop) (s : Nat → Value) (w : World) (h : s7_p6 K B1 B2 B3 (s 3) (s 7) (s 8) (s 9) (s 16) (s 17) (s 18) (s 33) (s 34) (s 35) (s 40) (s 41) (s 42) w) : Tr (s7_p6_den K (fun s w => B1 [s 3, s 16, s 17, s 18] w) (fun s w => B2 [s 3, s 16, s 17, s 18, s 33, s 34, s 35] w) (fun s w => B3 [s 3, s 7, s 16, s 17, s 18, s 33, s 34, s 35, s 40, s 41, s 42] w) s w) :=
  tr_draw (P := Tryd.prog) (ops := (ro (cd (Tryd.f7.body.getD .skip) [1, 1, 1, 0, 1, 0, 0, 1, 1, 0, 0, 1, 1, 1, 1, 0, 0, 1, 1, 0, 0, 1, 1, 0, 0, 1, 1, 0, 0, 1, 0]))) (ms := [0, 1, 3, 7, 0, 16, 0, 64, 240, 511, 1023, 2047, 2047, 4095, 16383]) (cs := [0, 1, 2, 3, 4, 5, 6, 7, 8]) (N := (fun s w => s7_p5 K B1 B2 B3 (s 3) (s 7) (s 9) (s 10) (s 11) (s 16) (s 17) (s 18) (s 33) (s 34) (s 35) (s 40) (s 41) (s 42) w)) (N' := (s7_p5_den K (fun s w => B1 [s 3, s 16, s 17, s 18] w) (fun s w => B2 [s 3, s 16, s 17, s 18, s 33, s 34, s 35] w) (fun s w => B3 [s 3, s 7, s 16, s 17, s 18, s 33, s 34, s 35, s 40, s 41, s 42] w))) (s := s) (w := w) (p := s7_p6 K B1 B2 B3 (s 3) (s 7) (s 8) (s 9) (s 16) (s 17) (s 18) (s 33) (s 34) (s 35) (s 40) (s 41) (s 42) w) (q := s7_p6_den K (fun s w => B1 [s 3, s 16, s 17, s 18] w) (fun s w => B2 [s 3, s 16, s 17, s 18, s 33, s 34, s 35] w) (fun s w => B3 [s 3, s 7, s 16, s 17, s 18, s 33, s 34, s 35, s 40, s 41, s 42] w) s w) (by kernel_rfl) (by kernel_rfl) (fun s w h => s7_p5_ok K B1 B2 B3 s w @h) (by kernel_rfl) (by kernel_rfl) @h
def s7_p7 (K : Value → World → Prop) (B1 : List Value → World → Prop) (B2 : List Value → World → Prop) (B3 : List Value → World → Prop) (t3 t7 t16 t17 t18 t33 t34 t35 t40 t41 t42 : Value) (w : World) : Prop :=
  ixs 1 t40 t42 (fun t45 w =>
  ld1 t45 (fun t46 w =>
  s7_p6 K B1 B2 B3 t3 t7 t42 t46 t16 t17 t18 t33 t34 t35 t40 t41 t42 w) w) w
def s7_p7_den (K : Value → World → Prop) (M1 : (Nat → Value) → World → Prop) (M2 : (Nat → Value) → World → Prop) (M3 : (Nat → Value) → World → Prop) : (Nat → Value) → World → Prop := denL Tryd.prog [(cd (Tryd.f7.body.getD .skip) [1, 1, 1, 0, 1, 0, 0, 1, 1, 0, 0, 1, 1, 1, 1, 0, 0, 1, 1, 0, 0, 1, 1, 0, 0, 1, 1, 0, 0, 0])] (s7_p6_den K M1 M2 M3) (fun i => (bif Nat.beq i 5 then (s7_p4_den K M1 M2 M3) else (bif Nat.beq i 4 then (s7_p3_den K M1 M2) else (bif Nat.beq i 3 then (s7_p3_den K M1 M2) else (bif Nat.beq i 2 then (s7_p2_den K M1) else (bif Nat.beq i 1 then (s7_p2_den K M1) else (bif Nat.beq i 0 then (s7_p1_den K) else (fun _ _ => False)))))))) (s7_R K)
theorem s7_p7_ok (K : Value → World → Prop) (B1 : List Value → World → Prop) (B2 : List Value → World → Prop) (B3 : List Value → World → Prop) (s : Nat → Value) (w : World) (h : s7_p7 K B1 B2 B3 (s 3) (s 7) (s 16) (s 17) (s 18) (s 33) (s 34) (s 35) (s 40) (s 41) (s 42) w) : Tr (s7_p7_den K (fun s w => B1 [s 3, s 16, s 17, s 18] w) (fun s w => B2 [s 3, s 16, s 17, s 18, s 33, s 34, s 35] w) (fun s w => B3 [s 3, s 7, s 16, s 17, s 18, s 33, s 34, s 35, s 40, s 41, s 42] w) s w) :=
  tr_simple (P := Tryd.prog) (codes := [(cd (Tryd.f7.body.getD .skip) [1, 1, 1, 0, 1, 0, 0, 1, 1, 0, 0, 1, 1, 1, 1, 0, 0, 1, 1, 0, 0, 1, 1, 0, 0, 1, 1, 0, 0, 0])]) (N := (fun s w => s7_p6 K B1 B2 B3 (s 3) (s 7) (s 8) (s 9) (s 16) (s 17) (s 18) (s 33) (s 34) (s 35) (s 40) (s 41) (s 42) w)) (N' := (s7_p6_den K (fun s w => B1 [s 3, s 16, s 17, s 18] w) (fun s w => B2 [s 3, s 16, s 17, s 18, s 33, s 34, s 35] w) (fun s w => B3 [s 3, s 7, s 16, s 17, s 18, s 33, s 34, s 35, s 40, s 41, s 42] w))) (X := (fun i => (bif Nat.beq i 5 then (fun s w => s7_p4 K B1 B2 B3 (s 3) (s 7) (s 16) (s 17) (s 18) (s 33) (s 34) (s 35) (s 40) (s 41) (s 42) w) else (bif Nat.beq i 4 then (fun s w => s7_p3 K B1 B2 (s 3) (s 16) (s 17) (s 18) (s 33) (s 34) (s 35) w) else (bif Nat.beq i 3 then (fun s w => s7_p3 K B1 B2 (s 3) (s 16) (s 17) (s 18) (s 33) (s 34) (s 35) w) else (bif Nat.beq i 2 then (fun s w => s7_p2 K B1 (s 3) (s 16) (s 17) (s 18) w) else (bif Nat.beq i 1 then (fun s w => s7_p2 K B1 (s 3) (s 16) (s 17) (s 18) w) else (bif Nat.beq i 0 then (fun s w => s7_p1 K w) else (fun _ _ => False))))))))) (X' := (fun i => (bif Nat.beq i 5 then (s7_p4_den K (fun s w => B1 [s 3, s 16, s 17, s 18] w) (fun s w => B2 [s 3, s 16, s 17, s 18, s 33, s 34, s 35] w) (fun s w => B3 [s 3, s 7, s 16, s 17, s 18, s 33, s 34, s 35, s 40, s 41, s 42] w)) else (bif Nat.beq i 4 then (s7_p3_den K (fun s w => B1 [s 3, s 16, s 17, s 18] w) (fun s w => B2 [s 3, s 16, s 17, s 18, s 33, s 34, s 35] w)) else (bif Nat.beq i 3 then (s7_p3_den K (fun s w => B1 [s 3, s 16, s 17, s 18] w) (fun s w => B2 [s 3, s 16, s 17, s 18, s 33, s 34, s 35] w)) else (bif Nat.beq i 2 then (s7_p2_den K (fun s w => B1 [s 3, s 16, s 17, s 18] w)) else (bif Nat.beq i 1 then (s7_p2_den K (fun s w => B1 [s 3, s 16, s 17, s 18] w)) else (bif Nat.beq i 0 then (s7_p1_den K) else (fun _ _ => False))))))))) (R := s7_R K) (s := s) (w := w) (p := s7_p7 K B1 B2 B3 (s 3) (s 7) (s 16) (s 17) (s 18) (s 33) (s 34) (s 35) (s 40) (s 41) (s 42) w) (q := s7_p7_den K (fun s w => B1 [s 3, s 16, s 17, s 18] w) (fun s w => B2 [s 3, s 16, s 17, s 18, s 33, s 34, s 35] w) (fun s w => B3 [s 3, s 7, s 16, s 17, s 18, s 33, s 34, s 35, s 40, s 41, s 42] w) s w) (fun s w h => s7_p6_ok K B1 B2 B3 s w @h) (fun i => (tr_bif (fun s w h => s7_p4_ok K B1 B2 B3 s w @h) (tr_bif (fun s w h => s7_p3_ok K B1 B2 s w @h) (tr_bif (fun s w h => s7_p3_ok K B1 B2 s w @h) (tr_bif (fun s w h => s7_p2_ok K B1 s w @h) (tr_bif (fun s w h => s7_p2_ok K B1 s w @h) (tr_bif (fun s w h => s7_p1_ok K s w @h) tr_id))))))) (by kernel_rfl) (by kernel_rfl) @h
def s7_p8 (K : Value → World → Prop) (B1 : List Value → World → Prop) (B2 : List Value → World → Prop) (B3 : List Value → World → Prop) (t3 t7 t16 t17 t18 t33 t34 t35 t40 t41 t42 : Value) (w : World) : Prop :=
  boI .lss t42 t41 (fun t43 w =>
  ifb t43
  (s7_p7 K B1 B2 B3 t3 t7 t16 t17 t18 t33 t34 t35 t40 t41 t42 w)
  (s7_p3 K B1 B2 t3 t16 t17 t18 t33 t34 t35 w)) w
def s7_p8_den (K : Value → World → Prop) (M1 : (Nat → Value) → World → Prop) (M2 : (Nat → Value) → World → Prop) (M3 : (Nat → Value) → World → Prop) : (Nat → Value) → World → Prop := denL Tryd.prog [(cd (Tryd.f7.body.getD .skip) [1, 1, 1, 0, 1, 0, 0, 1, 1, 0, 0, 1, 1, 1, 1, 0, 0, 1, 1, 0, 0, 1, 1, 0, 0, 0]), (cd (Tryd.f7.body.getD .skip) [1, 1, 1, 0, 1, 0, 0, 1, 1, 0, 0, 1, 1, 1, 1, 0, 0, 1, 1, 0, 0, 1, 1, 0, 0, 1, 0])] (s7_p7_den K M1 M2 M3) (fun i => (bif Nat.beq i 4 then (s7_p3_den K M1 M2) else (bif Nat.beq i 3 then (s7_p3_den K M1 M2) else (bif Nat.beq i 2 then (s7_p2_den K M1) else (bif Nat.beq i 1 then (s7_p2_den K M1) else (bif Nat.beq i 0 then (s7_p1_den K) else (fun _ _ => False))))))) (s7_R K)
theorem s7_p8_ok (K : Value → World → Prop) (B1 : List Value → World → Prop) (B2 : List Value → World → Prop) (B3 : List Value → World → Prop) (s : Nat → Value) (w : World) (h : s7_p8 K B1 B2 B3 (s 3) (s 7) (s 16) (s 17) (s 18) (s 33) (s 34) (s 35) (s 40) (s 41) (s 42) w) : Tr (s7_p8_den K (fun s w => B1 [s 3, s 16, s 17, s 18] w) (fun s w => B2 [s 3, s 16, s 17, s 18, s 33, s 34, s 35] w) (fun s w => B3 [s 3, s 7, s 16, s 17, s 18, s 33, s 34, s 35, s 40, s 41, s 42] w) s w) :=
  tr_simple (P := Tryd.prog) (codes := [(cd (Tryd.f7.body.getD .skip) [1, 1, 1, 0, 1, 0, 0, 1, 1, 0, 0, 1, 1, 1, 1, 0, 0, 1, 1, 0, 0, 1, 1, 0, 0, 0]), (cd (Tryd.f7.body.getD .skip) [1, 1, 1, 0, 1, 0, 0, 1, 1, 0, 0, 1, 1, 1, 1, 0, 0, 1, 1, 0, 0, 1, 1, 0, 0, 1, 0])]) (N := (fun s w => s7_p7 K B1 B2 B3 (s 3) (s 7) (s 16) (s 17) (s 18) (s 33) (s 34) (s 35) (s 40) (s 41) (s 42) w)) (N' := (s7_p7_den K (fun s w => B1 [s 3, s 16, s 17, s 18] w) (fun s w => B2 [s 3, s 16, s 17, s 18, s 33, s 34, s 35] w) (fun s w => B3 [s 3, s 7, s 16, s 17, s 18, s 33, s 34, s 35, s 40, s 41, s 42] w))) (X := (fun i => (bif Nat.beq i 4 then (fun s w => s7_p3 K B1 B2 (s 3) (s 16) (s 17) (s 18) (s 33) (s 34) (s 35) w) else (bif Nat.beq i 3 then (fun s w => s7_p3 K B1 B2 (s 3) (s 16) (s 17) (s 18) (s 33) (s 34) (s 35) w) else (bif Nat.beq i 2 then (fun s w => s7_p2 K B1 (s 3) (s 16) (s 17) (s 18) w) else (bif Nat.beq i 1 then (fun s w => s7_p2 K B1 (s 3) (s 16) (s 17) (s 18) w) else (bif Nat.beq i 0 then (fun s w => s7_p1 K w) else (fun _ _ => False)))))))) (X' := (fun i => (bif Nat.beq i 4 then (s7_p3_den K (fun s w => B1 [s 3, s 16, s 17, s 18] w) (fun s w => B2 [s 3, s 16, s 17, s 18, s 33, s 34, s 35] w)) else (bif Nat.beq i 3 then (s7_p3_den K (fun s w => B1 [s 3, s 16, s 17, s 18] w) (fun s w => B2 [s 3, s 16, s 17, s 18, s 33, s 34, s 35] w)) else (bif Nat.beq i 2 then (s7_p2_den K (fun s w => B1 [s 3, s 16, s 17, s 18] w)) else (bif Nat.beq i 1 then (s7_p2_den K (fun s w => B1 [s 3, s 16, s 17, s 18] w)) else (bif Nat.beq i 0 then (s7_p1_den K) else (fun _ _ => False)))))))) (R := s7_R K) (s := s) (w := w) (p := s7_p8 K B1 B2 B3 (s 3) (s 7) (s 16) (s 17) (s 18) (s 33) (s 34) (s 35) (s 40) (s 41) (s 42) w) (q := s7_p8_den K (fun s w => B1 [s 3, s 16, s 17, s 18] w) (fun s w => B2 [s 3, s 16, s 17, s 18, s 33, s 34, s 35] w) (fun s w => B3 [s 3, s 7, s 16, s 17, s 18, s 33, s 34, s 35, s 40, s 41, s 42] w) s w) (fun s w h => s7_p7_ok K B1 B2 B3 s w @h) (fun i => (tr_bif (fun s w h => s7_p3_ok K B1 B2 s w @h) (tr_bif (fun s w h => s7_p3_ok K B1 B2 s w @h) (tr_bif (fun s w h => s7_p2_ok K B1 s w @h) (tr_bif (fun s w h => s7_p2_ok K B1 s w @h) (tr_bif (fun s w h => s7_p1_ok K s w @h) tr_id)))))) (by kernel_rfl) (by kernel_rfl) @h
def s7_p9_F (K : Value → World → Prop) (B1 : List Value → World → Prop) (B2 : List Value → World → Prop) (B3 : List Value → World → Prop) (l : List Value) (w : World) : Prop :=
  match l with
  | [t3, t7, t16, t17, t18, t33, t34, t35, t40, t41, t42] => s7_p8 K B1 B2 B3 t3 t7 t16 t17 t18 t33 t34 t35 t40 t41 t42 w
  | _ => False
theorem s7_p9_Fe {K : Value → World → Prop} {B1 : List Value → World → Prop} {B2 : List Value → World → Prop} {B3 : List Value → World → Prop} {t3 t7 t16 t17 t18 t33 t34 t35 t40 t41 t42 : Value} {w : World} : s7_p9_F K B1 B2 B3 [t3, t7, t16, t17, t18, t33, t34, t35, t40, t41, t42] w = s7_p8 K B1 B2 B3 t3 t7 t16 t17 t18 t33 t34 t35 t40 t41 t42 w := by kernel_rfl
def s7_p9 (K : Value → World → Prop) (B1 : List Value → World → Prop) (B2 : List Value → World → Prop) (t3 t7 t16 t17 t18 t33 t34 t35 t40 t41 t42 : Value) (w : World) : Prop :=
  LoopL (s7_p9_F K B1 B2) [t3, t7, t16, t17, t18, t33, t34, t35, t40, t41, t42] w
def s7_p9_den (K : Value → World → Prop) (M1 : (Nat → Value) → World → Prop) (M2 : (Nat → Value) → World → Prop) : (Nat → Value) → World → Prop := fun s w => LoopP (fun M3 s w => s7_p8_den K M1 M2 M3 s w) s w
theorem s7_p9_ok (K : Value → World → Prop) (B1 : List Value → World → Prop) (B2 : List Value → World → Prop) (s : Nat → Value) (w : World) (h : s7_p9 K B1 B2 (s 3) (s 7) (s 16) (s 17) (s 18) (s 33) (s 34) (s 35) (s 40) (s 41) (s 42) w) : Tr (s7_p9_den K (fun s w => B1 [s 3, s 16, s 17, s 18] w) (fun s w => B2 [s 3, s 16, s 17, s 18, s 33, s 34, s 35] w) s w) :=
  tr_loop (G := fun N' s w => s7_p8_den K (fun s w => B1 [s 3, s 16, s 17, s 18] w) (fun s w => B2 [s 3, s 16, s 17, s 18, s 33, s 34, s 35] w) N' s w) (F := s7_p9_F K B1 B2) (sel := fun s => [s 3, s 7, s 16, s 17, s 18, s 33, s 34, s 35, s 40, s 41, s 42]) (s := s) (w := w) (p := s7_p9 K B1 B2 (s 3) (s 7) (s 16) (s 17) (s 18) (s 33) (s 34) (s 35) (s 40) (s 41) (s 42) w) (q := s7_p9_den K (fun s w => B1 [s 3, s 16, s 17, s 18] w) (fun s w => B2 [s 3, s 16, s 17, s 18, s 33, s 34, s 35] w) s w) (fun B s w h => s7_p8_ok K B1 B2 B s w @h) (by kernel_rfl) (by kernel_rfl) @h
def s7_p10 (K : Value → World → Prop) (B1 : List Value → World → Prop) (B2 : List Value → World → Prop) (t3 t16 t17 t18 t33 t34 t35 : Value) (w : World) : Prop :=
  ixs 3 t33 t35 (fun t37 w =>
  ldn 3 t37 (fun t38 w =>
  nw 66 #[(.int .i64 0), (.int .u32 0), (.slice none 0 0)] (fun t7 w =>
  stn 3 t7 t38 (fun w =>
  fd 2 t7 (fun t39 w =>
  ld1 t39 (fun t40 w =>
  lnS t40 (fun t41 w =>
  s7_p9 K B1 B2 t3 t7 t16 t17 t18 t33 t34 t35 t40 t41 (.int .i64 0) w) w) w) w) w) w) w) w
def s7_p10_den (K : Value → World → Prop) (M1 : (Nat → Value) → World → Prop) (M2 : (Nat → Value) → World → Prop) : (Nat → Value) → World → Prop := denL Tryd.prog [(cd (Tryd.f7.body.getD .skip) [1, 1, 1, 0, 1, 0, 0, 1, 1, 0, 0, 1, 1, 1, 1, 0, 0, 1, 1, 0, 0, 0]), (cd (Tryd.f7.body.getD .skip) [1, 1, 1, 0, 1, 0, 0, 1, 1, 0, 0, 1, 1, 1, 1, 0, 0, 1, 1, 0, 0, 1, 0])] (s7_p9_den K M1 M2) (fun i => (bif Nat.beq i 3 then (s7_p3_den K M1 M2) else (bif Nat.beq i 2 then (s7_p2_den K M1) else (bif Nat.beq i 1 then (s7_p2_den K M1) else (bif Nat.beq i 0 then (s7_p1_den K) else (fun _ _ => False)))))) (s7_R K)
theorem s7_p10_ok (K : Value → World → Prop) (B1 : List Value → World → Prop) (B2 : List Value → World → Prop) (s : Nat → Value) (w : World) (h : s7_p10 K B1 B2 (s 3) (s 16) (s 17) (s 18) (s 33) (s 34) (s 35) w) : Tr (s7_p10_den K (fun s w => B1 [s 3, s 16, s 17, s 18] w) (fun s w => B2 [s 3, s 16, s 17, s 18, s 33, s 34, s 35] w) s w) :=
  tr_simple (P := Tryd.prog) (codes := [(cd (Tryd.f7.body.getD .skip) [1, 1, 1, 0, 1, 0, 0, 1, 1, 0, 0, 1, 1, 1, 1, 0, 0, 1, 1, 0, 0, 0]), (cd (Tryd.f7.body.getD .skip) [1, 1, 1, 0, 1, 0, 0, 1, 1, 0, 0, 1, 1, 1, 1, 0, 0, 1, 1, 0, 0, 1, 0])]) (N := (fun s w => s7_p9 K B1 B2 (s 3) (s 7) (s 16) (s 17) (s 18) (s 33) (s 34) (s 35) (s 40) (s 41) (s 42) w)) (N' := (s7_p9_den K (fun s w => B1 [s 3, s 16, s 17, s 18] w) (fun s w => B2 [s 3, s 16, s 17, s 18, s 33, s 34, s 35] w))) (X := (fun i => (bif Nat.beq i 3 then (fun s w => s7_p3 K B1 B2 (s 3) (s 16) (s 17) (s 18) (s 33) (s 34) (s 35) w) else (bif Nat.beq i 2 then (fun s w => s7_p2 K B1 (s 3) (s 16) (s 17) (s 18) w) else (bif Nat.beq i 1 then (fun s w => s7_p2 K B1 (s 3) (s 16) (s 17) (s 18) w) else (bif Nat.beq i 0 then (fun s w => s7_p1 K w) else (fun _ _ => False))))))) (X' := (fun i => (bif Nat.beq i 3 then (s7_p3_den K (fun s w => B1 [s 3, s 16, s 17, s 18] w) (fun s w => B2 [s 3, s 16, s 17, s 18, s 33, s 34, s 35] w)) else (bif Nat.beq i 2 then (s7_p2_den K (fun s w => B1 [s 3, s 16, s 17, s 18] w)) else (bif Nat.beq i 1 then (s7_p2_den K (fun s w => B1 [s 3, s 16, s 17, s 18] w)) else (bif Nat.beq i 0 then (s7_p1_den K) else (fun _ _ => False))))))) (R := s7_R K) (s := s) (w := w) (p := s7_p10 K B1 B2 (s 3) (s 16) (s 17) (s 18) (s 33) (s 34) (s 35) w) (q := s7_p10_den K (fun s w => B1 [s 3, s 16, s 17, s 18] w) (fun s w => B2 [s 3, s 16, s 17, s 18, s 33, s 34, s 35] w) s w) (fun s w h => s7_p9_ok K B1 B2 s w @h) (fun i => (tr_bif (fun s w h => s7_p3_ok K B1 B2 s w @h) (tr_bif (fun s w h => s7_p2_ok K B1 s w @h) (tr_bif (fun s w h => s7_p2_ok K B1 s w @h) (tr_bif (fun s w h => s7_p1_ok K s w @h) tr_id))))) (by kernel_rfl) (by kernel_rfl) @h
def s7_p11 (K : Value → World → Prop) (B1 : List Value → World → Prop) (B2 : List Value → World → Prop) (t3 t16 t17 t18 t33 t34 t35 : Value) (w : World) : Prop :=
  boI .lss t35 t34 (fun t36 w =>
  ifb t36
  (s7_p10 K B1 B2 t3 t16 t17 t18 t33 t34 t35 w)
  (s7_p2 K B1 t3 t16 t17 t18 w)) w
def s7_p11_den (K : Value → World → Prop) (M1 : (Nat → Value) → World → Prop) (M2 : (Nat → Value) → World → Prop) : (Nat → Value) → World → Prop := denL Tryd.prog [(cd (Tryd.f7.body.getD .skip) [1, 1, 1, 0, 1, 0, 0, 1, 1, 0, 0, 1, 1, 1, 1, 0, 0, 0]), (cd (Tryd.f7.body.getD .skip) [1, 1, 1, 0, 1, 0, 0, 1, 1, 0, 0, 1, 1, 1, 1, 0, 0, 1, 0])] (s7_p10_den K M1 M2) (fun i => (bif Nat.beq i 2 then (s7_p2_den K M1) else (bif Nat.beq i 1 then (s7_p2_den K M1) else (bif Nat.beq i 0 then (s7_p1_den K) else (fun _ _ => False))))) (s7_R K)
theorem s7_p11_ok (K : Value → World → Prop) (B1 : List Value → World → Prop) (B2 : List Value → World → Prop) (s : Nat → Value) (w : World) (h : s7_p11 K B1 B2 (s 3) (s 16) (s 17) (s 18) (s 33) (s 34) (s 35) w) : Tr (s7_p11_den K (fun s w => B1 [s 3, s 16, s 17, s 18] w) (fun s w => B2 [s 3, s 16, s 17, s 18, s 33, s 34, s 35] w) s w) :=
  tr_simple (P := Tryd.prog) (codes := [(cd (Tryd.f7.body.getD .skip) [1, 1, 1, 0, 1, 0, 0, 1, 1, 0, 0, 1, 1, 1, 1, 0, 0, 0]), (cd (Tryd.f7.body.getD .skip) [1, 1, 1, 0, 1, 0, 0, 1, 1, 0, 0, 1, 1, 1, 1, 0, 0, 1, 0])]) (N := (fun s w => s7_p10 K B1 B2 (s 3) (s 16) (s 17) (s 18) (s 33) (s 34) (s 35) w)) (N' := (s7_p10_den K (fun s w => B1 [s 3, s 16, s 17, s 18] w) (fun s w => B2 [s 3, s 16, s 17, s 18, s 33, s 34, s 35] w))) (X := (fun i => (bif Nat.beq i 2 then (fun s w => s7_p2 K B1 (s 3) (s 16) (s 17) (s 18) w) else (bif Nat.beq i 1 then (fun s w => s7_p2 K B1 (s 3) (s 16) (s 17) (s 18) w) else (bif Nat.beq i 0 then (fun s w => s7_p1 K w) else (fun _ _ => False)))))) (X' := (fun i => (bif Nat.beq i 2 then (s7_p2_den K (fun s w => B1 [s 3, s 16, s 17, s 18] w)) else (bif Nat.beq i 1 then (s7_p2_den K (fun s w => B1 [s 3, s 16, s 17, s 18] w)) else (bif Nat.beq i 0 then (s7_p1_den K) else (fun _ _ => False)))))) (R := s7_R K) (s := s) (w := w) (p := s7_p11 K B1 B2 (s 3) (s 16) (s 17) (s 18) (s 33) (s 34) (s 35) w) (q := s7_p11_den K (fun s w => B1 [s 3, s 16, s 17, s 18] w) (fun s w => B2 [s 3, s 16, s 17, s 18, s 33, s 34, s 35] w) s w) (fun s w h => s7_p10_ok K B1 B2 s w @h) (fun i => (tr_bif (fun s w h => s7_p2_ok K B1 s w @h) (tr_bif (fun s w h => s7_p2_ok K B1 s w @h) (tr_bif (fun s w h => s7_p1_ok K s w @h) tr_id)))) (by kernel_rfl) (by kernel_rfl) @h
def s7_p12_F (K : Value → World → Prop) (B1 : List Value → World → Prop) (B2 : List Value → World → Prop) (l : List Value) (w : World) : Prop :=
  match l with
  | [t3, t16, t17, t18, t33, t34, t35] => s7_p11 K B1 B2 t3 t16 t17 t18 t33 t34 t35 w
  | _ => False
theorem s7_p12_Fe {K : Value → World → Prop} {B1 : List Value → World → Prop} {B2 : List Value → World → Prop} {t3 t16 t17 t18 t33 t34 t35 : Value} {w : World} : s7_p12_F K B1 B2 [t3, t16, t17, t18, t33, t34, t35] w = s7_p11 K B1 B2 t3 t16 t17 t18 t33 t34 t35 w := by kernel_rfl
def s7_p12 (K : Value → World → Prop) (B1 : List Value → World → Prop) (t3 t16 t17 t18 t33 t34 t35 : Value) (w : World) : Prop :=
  LoopL (s7_p12_F K B1) [t3, t16, t17, t18, t33, t34, t35] w
def s7_p12_den (K : Value → World → Prop) (M1 : (Nat → Value) → World → Prop) : (Nat → Value) → World → Prop := fun s w => LoopP (fun M2 s w => s7_p11_den K M1 M2 s w) s w
theorem s7_p12_ok (K : Value → World → Prop) (B1 : List Value → World → Prop) (s : Nat → Value) (w : World) (h : s7_p12 K B1 (s 3) (s 16) (s 17) (s 18) (s 33) (s 34) (s 35) w) : Tr (s7_p12_den K (fun s w => B1 [s 3, s 16, s 17, s 18] w) s w) :=
  tr_loop (G := fun N' s w => s7_p11_den K (fun s w => B1 [s 3, s 16, s 17, s 18] w) N' s w) (F := s7_p12_F K B1) (sel := fun s => [s 3, s 16, s 17, s 18, s 33, s 34, s 35]) (s := s) (w := w) (p := s7_p12 K B1 (s 3) (s 16) (s 17) (s 18) (s 33) (s 34) (s 35) w) (q := s7_p12_den K (fun s w => B1 [s 3, s 16, s 17, s 18] w) s w) (fun B s w h => s7_p11_ok K B1 B s w @h) (by kernel_rfl) (by kernel_rfl) @h
def s7_p13 (K : Value → World → Prop) (B1 : List Value → World → Prop) (t3 t16 t17 t18 : Value) (w : World) : Prop :=
  ixs 4 t16 t18 (fun t20 w =>
  ldn 4 t20 (fun t21 w =>
  nw 28 #[(.int .u8 0), (.int .i64 0), (.int .i64 0), (.int .i64 0)] (fun t5 w =>
  stn 4 t5 t21 (fun w =>
  fd 0 t5 (fun t22 w =>
  ld1 t22 (fun t23 w =>
  boI .eql t23 (.int .u8 8) (fun t24 w =>
  ifb t24
  (s7_p2 K B1 t3 t16 t17 t18 w)
  (ldn 4 t5 (fun t27 w =>
  cl Tryd.prog 13 #[t3, t27] (fun t28 w =>
  cl Tryd.prog 14 #[t3, t28] (fun t29 w =>
  nck t3 (fun t31 w =>
  fd 3 t31 (fun t32 w =>
  ld1 t32 (fun t33 w =>
  lnS t33 (fun t34 w =>
  s7_p12 K B1 t3 t16 t17 t18 t33 t34 (.int .i64 0) w) w) w) w) w) w) w) w)) w) w) w) w) w) w) w
def s7_p13_den (K : Value → World → Prop) (M1 : (Nat → Value) → World → Prop) : (Nat → Value) → World → Prop := denL Tryd.prog [(cd (Tryd.f7.body.getD .skip) [1, 1, 1, 0, 1, 0, 0, 1, 1, 0, 0, 0]), (cd (Tryd.f7.body.getD .skip) [1, 1, 1, 0, 1, 0, 0, 1, 1, 0, 0, 1, 0, 0]), (cd (Tryd.f7.body.getD .skip) [1, 1, 1, 0, 1, 0, 0, 1, 1, 0, 0, 1, 0, 1]), (cd (Tryd.f7.body.getD .skip) [1, 1, 1, 0, 1, 0, 0, 1, 1, 0, 0, 1, 1, 0]), (cd (Tryd.f7.body.getD .skip) [1, 1, 1, 0, 1, 0, 0, 1, 1, 0, 0, 1, 1, 1, 0])] (s7_p12_den K M1) (fun i => (bif Nat.beq i 1 then (s7_p2_den K M1) else (bif Nat.beq i 0 then (s7_p1_den K) else (fun _ _ => False)))) (s7_R K)
theorem s7_p13_ok (K : Value → World → Prop) (B1 : List Value → World → Prop) (s : Nat → Value) (w : World) (h : s7_p13 K B1 (s 3) (s 16) (s 17) (s 18) w) : Tr (s7_p13_den K (fun s w => B1 [s 3, s 16, s 17, s 18] w) s w) :=
  tr_simple (P := Tryd.prog) (codes := [(cd (Tryd.f7.body.getD .skip) [1, 1, 1, 0, 1, 0, 0, 1, 1, 0, 0, 0]), (cd (Tryd.f7.body.getD .skip) [1, 1, 1, 0, 1, 0, 0, 1, 1, 0, 0, 1, 0, 0]), (cd (Tryd.f7.body.getD .skip) [1, 1, 1, 0, 1, 0, 0, 1, 1, 0, 0, 1, 0, 1]), (cd (Tryd.f7.body.getD .skip) [1, 1, 1, 0, 1, 0, 0, 1, 1, 0, 0, 1, 1, 0]), (cd (Tryd.f7.body.getD .skip) [1, 1, 1, 0, 1, 0, 0, 1, 1, 0, 0, 1, 1, 1, 0])]) (N := (fun s w => s7_p12 K B1 (s 3) (s 16) (s 17) (s 18) (s 33) (s 34) (s 35) w)) (N' := (s7_p12_den K (fun s w => B1 [s 3, s 16, s 17, s 18] w))) (X := (fun i => (bif Nat.beq i 1 then (fun s w => s7_p2 K B1 (s 3) (s 16) (s 17) (s 18) w) else (bif Nat.beq i 0 then (fun s w => s7_p1 K w) else (fun _ _ => False))))) (X' := (fun i => (bif Nat.beq i 1 then (s7_p2_den K (fun s w => B1 [s 3, s 16, s 17, s 18] w)) else (bif Nat.beq i 0 then (s7_p1_den K) else (fun _ _ => False))))) (R := s7_R K) (s := s) (w := w) (p := s7_p13 K B1 (s 3) (s 16) (s 17) (s 18) w) (q := s7_p13_den K (fun s w => B1 [s 3, s 16, s 17, s 18] w) s w) (fun s w h => s7_p12_ok K B1 s w @h) (fun i => (tr_bif (fun s w h => s7_p2_ok K B1 s w @h) (tr_bif (fun s w h => s7_p1_ok K s w @h) tr_id))) (by kernel_rfl) (by kernel_rfl) @h
def s7_p14 (K : Value → World → Prop) (B1 : List Value → World → Prop) (t3 t16 t17 t18 : Value) (w : World) : Prop :=
  boI .lss t18 t17 (fun t19 w =>
  ifb t19
  (s7_p13 K B1 t3 t16 t17 t18 w)
  (s7_p1 K w)) w
def s7_p14_den (K : Value → World → Prop) (M1 : (Nat → Value) → World → Prop) : (Nat → Value) → World → Prop := denL Tryd.prog [(cd (Tryd.f7.body.getD .skip) [1, 1, 1, 0, 1, 0, 0, 0]), (cd (Tryd.f7.body.getD .skip) [1, 1, 1, 0, 1, 0, 0, 1, 0])] (s7_p13_den K M1) (fun i => (bif Nat.beq i 0 then (s7_p1_den K) else (fun _ _ => False))) (s7_R K)
theorem s7_p14_ok (K : Value → World → Prop) (B1 : List Value → World → Prop) (s : Nat → Value) (w : World) (h : s7_p14 K B1 (s 3) (s 16) (s 17) (s 18) w) : Tr (s7_p14_den K (fun s w => B1 [s 3, s 16, s 17, s 18] w) s w) :=
  tr_simple (P := Tryd.prog) (codes := [(cd (Tryd.f7.body.getD .skip) [1, 1, 1, 0, 1, 0, 0, 0]), (cd (Tryd.f7.body.getD .skip) [1, 1, 1, 0, 1, 0, 0, 1, 0])]) (N := (fun s w => s7_p13 K B1 (s 3) (s 16) (s 17) (s 18) w)) (N' := (s7_p13_den K (fun s w => B1 [s 3, s 16, s 17, s 18] w))) (X := (fun i => (bif Nat.beq i 0 then (fun s w => s7_p1 K w) else (fun _ _ => False)))) (X' := (fun i => (bif Nat.beq i 0 then (s7_p1_den K) else (fun _ _ => False)))) (R := s7_R K) (s := s) (w := w) (p := s7_p14 K B1 (s 3) (s 16) (s 17) (s 18) w) (q := s7_p14_den K (fun s w => B1 [s 3, s 16, s 17, s 18] w) s w) (fun s w h => s7_p13_ok K B1 s w @h) (fun i => (tr_bif (fun s w h => s7_p1_ok K s w @h) tr_id)) (by kernel_rfl) (by kernel_rfl) @h
def s7_p15_F (K : Value → World → Prop) (B1 : List Value → World → Prop) (l : List Value) (w : World) : Prop :=
  match l with
  | [t3, t16, t17, t18] => s7_p14 K B1 t3 t16 t17 t18 w
  | _ => False
theorem s7_p15_Fe {K : Value → World → Prop} {B1 : List Value → World → Prop} {t3 t16 t17 t18 : Value} {w : World} : s7_p15_F K B1 [t3, t16, t17, t18] w = s7_p14 K B1 t3 t16 t17 t18 w := by kernel_rfl
def s7_p15 (K : Value → World → Prop) (t3 t16 t17 t18 : Value) (w : World) : Prop :=
  LoopL (s7_p15_F K) [t3, t16, t17, t18] w
def s7_p15_den (K : Value → World → Prop) : (Nat → Value) → World → Prop := fun s w => LoopP (fun M1 s w => s7_p14_den K M1 s w) s w
theorem s7_p15_ok (K : Value → World → Prop) (s : Nat → Value) (w : World) (h : s7_p15 K (s 3) (s 16) (s 17) (s 18) w) : Tr (s7_p15_den K s w) :=
  tr_loop (G := fun N' s w => s7_p14_den K N' s w) (F := s7_p15_F K) (sel := fun s => [s 3, s 16, s 17, s 18]) (s := s) (w := w) (p := s7_p15 K (s 3) (s 16) (s 17) (s 18) w) (q := s7_p15_den K s w) (fun B s w h => s7_p14_ok K B s w @h) (by kernel_rfl) (by kernel_rfl) @h
def s7_p16 (K : Value → World → Prop) (t0 : Value) (w : World) : Prop :=
  cl Tryd.prog 11 #[t0] (fun t13 w =>
  un .not t13 (fun t14 w =>
  ifb t14
  (K (.bool true) w)
  (cl Tryd.prog 12 #[] (fun t15 w =>
  lnS t0 (fun t17 w =>
  s7_p15 K t15 t0 t17 (.int .i64 0) w) w) w)) w) w
def s7_p16_den (K : Value → World → Prop) : (Nat → Value) → World → Prop := denL Tryd.prog [(cd (Tryd.f7.body.getD .skip) [0]), (cd (Tryd.f7.body.getD .skip) [1, 0, 0]), (cd (Tryd.f7.body.getD .skip) [1, 0, 1]), (cd (Tryd.f7.body.getD .skip) [1, 1, 0]), (cd (Tryd.f7.body.getD .skip) [1, 1, 1, 0, 0])] (s7_p15_den K) (fun i => (fun _ _ => False)) (s7_R K)
theorem s7_p16_ok (K : Value → World → Prop) (s : Nat → Value) (w : World) (h : s7_p16 K (s 0) w) : Tr (s7_p16_den K s w) :=
  tr_simple (P := Tryd.prog) (codes := [(cd (Tryd.f7.body.getD .skip) [0]), (cd (Tryd.f7.body.getD .skip) [1, 0, 0]), (cd (Tryd.f7.body.getD .skip) [1, 0, 1]), (cd (Tryd.f7.body.getD .skip) [1, 1, 0]), (cd (Tryd.f7.body.getD .skip) [1, 1, 1, 0, 0])]) (N := (fun s w => s7_p15 K (s 3) (s 16) (s 17) (s 18) w)) (N' := (s7_p15_den K)) (X := (fun i => (fun _ _ => False))) (X' := (fun i => (fun _ _ => False))) (R := s7_R K) (s := s) (w := w) (p := s7_p16 K (s 0) w) (q := s7_p16_den K s w) (fun s w h => s7_p15_ok K s w @h) (fun i => tr_id) (by kernel_rfl) (by kernel_rfl) @h
/-- the call, from the text -/
theorem c7 (t0 : Value) {K : Value → World → Prop} {w : World} (h : s7_p16 K t0 w) : cl Tryd.prog 7 #[t0] K w :=
  calls_of_tr (c := (Tryd.f7.body.getD .skip)) (fn := Tryd.f7) (q := s7_p16_den K (st0 #[t0]) w) Tryd.func7 (by kernel_rfl) (by kernel_rfl) (Nat.le_of_ble_eq_true (by kernel_rfl)) (by kernel_rfl) (by kernel_rfl) (s7_p16_ok K (st0 #[t0]) w @h)

/-! ### function 8 : e2e.poollaw.RefusalsChangeNothing -/
def s8_R (K : Value → World → Prop) (s : Nat → Value) (w : World) : Prop := retv Tryd.prog s Tryd.f8.results.toList (fun vs => K (pack vs) w) w
def s8_p1 (K : Value → World → Prop) (w : World) : Prop :=
  K (.bool true) w
def s8_p1_den (K : Value → World → Prop) : (Nat → Value) → World → Prop := denL Tryd.prog [(cd (Tryd.f8.body.getD .skip) [1, 1, 1, 1, 0]), (cd (Tryd.f8.body.getD .skip) [1, 1, 1, 1, 1])] (fun _ _ => False) (fun i => (fun _ _ => False)) (s8_R K)
theorem s8_p1_ok (K : Value → World → Prop) (s : Nat → Value) (w : World) (h : s8_p1 K w) : Tr (s8_p1_den K s w) :=
  tr_simple (P := Tryd.prog) (codes := [(cd (Tryd.f8.body.getD .skip) [1, 1, 1, 1, 0]), (cd (Tryd.f8.body.getD .skip) [1, 1, 1, 1, 1])]) (N := (fun _ _ => False)) (N' := (fun _ _ => False)) (X := (fun i => (fun _ _ => False))) (X' := (fun i => (fun _ _ => False))) (R := s8_R K) (s := s) (w := w) (p := s8_p1 K w) (q := s8_p1_den K s w) tr_id (fun i => tr_id) (by kernel_rfl) (by kernel_rfl) @h
def s8_p2 (K : Value → World → Prop) (B1 : List Value → World → Prop) (t3 t12 t13 t14 : Value) (w : World) : Prop :=
  boI .add t14 (.int .i64 1) (fun t55 w =>
  B1 [t3, t12, t13, t55] w) w
def s8_p2_den (K : Value → World → Prop) (M1 : (Nat → Value) → World → Prop) : (Nat → Value) → World → Prop := denL Tryd.prog [(cd (Tryd.f8.body.getD .skip) [1, 1, 1, 0, 1, 0, 0, 1, 1, 1])] M1 (fun i => (bif Nat.beq i 0 then (s8_p1_den K) else (fun _ _ => False))) (s8_R K)
theorem s8_p2_ok (K : Value → World → Prop) (B1 : List Value → World → Prop) (s : Nat → Value) (w : World) (h : s8_p2 K B1 (s 3) (s 12) (s 13) (s 14) w) : Tr (s8_p2_den K (fun s w => B1 [s 3, s 12, s 13, s 14] w) s w) :=
  tr_simple (P := Tryd.prog) (codes := [(cd (Tryd.f8.body.getD .skip) [1, 1, 1, 0, 1, 0, 0, 1, 1, 1])]) (N := (fun s w => B1 [s 3, s 12, s 13, s 14] w)) (N' := (fun s w => B1 [s 3, s 12, s 13, s 14] w)) (X := (fun i => (bif Nat.beq i 0 then (fun s w => s8_p1 K w) else (fun _ _ => False)))) (X' := (fun i => (bif Nat.beq i 0 then (s8_p1_den K) else (fun _ _ => False)))) (R := s8_R K) (s := s) (w := w) (p := s8_p2 K B1 (s 3) (s 12) (s 13) (s 14) w) (q := s8_p2_den K (fun s w => B1 [s 3, s 12, s 13, s 14] w) s w) tr_id (fun i => (tr_bif (fun s w h => s8_p1_ok K s w @h) tr_id)) (by kernel_rfl) (by kernel_rfl) @h
def s8_p3 (K : Value → World → Prop) (B1 : List Value → World → Prop) (t3 t12 t13 t14 : Value) (w : World) : Prop :=
  boI .lss t14 t13 (fun t15 w =>
  ifb t15
  (ixs 4 t12 t14 (fun t16 w =>
  ldn 4 t16 (fun t17 w =>
  nw 28 #[(.int .u8 0), (.int .i64 0), (.int .i64 0), (.int .i64 0)] (fun t5 w =>
  stn 4 t5 t17 (fun w =>
  fd 0 t5 (fun t18 w =>
  ld1 t18 (fun t19 w =>
  boI .eql t19 (.int .u8 8) (fun t20 w =>
  ifb t20
  (s8_p2 K B1 t3 t12 t13 t14 w)
  (ldn 4 t5 (fun t22 w =>
  cl Tryd.prog 13 #[t3, t22] (fun t23 w =>
  nw 33 #[(.int .u8 0), (.int .i64 0), (.int .u32 0), (.int .i64 0), (.int .i64 0), (.int .i64 0)] (fun t6 w =>
  stn 6 t6 t23 (fun w =>
  ldn 6 t6 (fun t25 w =>
  cl Tryd.prog 14 #[t3, t25] (fun t26 w =>
  nw 41 #[(.int .i64 0), (.int .i64 0), (.int .u32 0), (.int .u32 0), (.int .u32 0), (.int .u32 0), (.int .u64 0), (.int .u64 0), (.slice none 0 0)] (fun t7 w =>
  stn 9 t7 t26 (fun w =>
  ldn 6 t6 (fun t28 w =>
  fd 2 t7 (fun t29 w =>
  ld1 t29 (fun t30 w =>
  cl Tryd.prog 15 #[t3, t28, t30] (fun t31 w =>
  fd 0 t7 (fun t32 w =>
  ld1 t32 (fun t33 w =>
  boI .eql t33 (.int .i64 0) (fun t34 w =>
  ifb t34
  (s8_p2 K B1 t3 t12 t13 t14 w)
  (fd 0 t7 (fun t35 w =>
  ld1 t35 (fun t36 w =>
  boI .neq t36 (.int .i64 7) (fun t37 w =>
  ifb t37
  (fd 8 t7 (fun t38 w =>
  ld1 t38 (fun t39 w =>
  lnS t39 (fun t40 w =>
  boI .neq t40 (.int .i64 0) (fun t41 w =>
  ifb t41
  (K (.bool false) w)
  (s8_p2 K B1 t3 t12 t13 t14 w)) w) w) w) w)
  (fd 8 t7 (fun t42 w =>
  ld1 t42 (fun t43 w =>
  lnS t43 (fun t44 w =>
  boI .neq t44 (.int .i64 1) (fun t45 w =>
  gd t45 false (fun K w => K t3 w) (fun t47 w =>
  gd t45 false (fd 8 t7) (fun t48 w =>
  gd t45 false (ld1 t48) (fun t49 w =>
  gd t45 false (ixs 1 t49 (.int .i64 0)) (fun t50 w =>
  gd t45 false (ld1 t50) (fun t51 w =>
  gd t45 false (cl Tryd.prog 18 #[t47, t51]) (fun t52 w =>
  gd t45 false (boI .neq t52 (.int .i64 (-1))) (fun t53 w =>
  pk t45 (.bool true) t53 (fun t54 w =>
  ifb t54
  (K (.bool false) w)
  (s8_p2 K B1 t3 t12 t13 t14 w)) w) w) w) w) w) w) w) w) w) w) w) w)) w) w) w)) w) w) w) w) w) w) w) w) w) w) w) w) w) w) w)) w) w) w) w) w) w) w)
  (s8_p1 K w)) w
def s8_p3_den (K : Value → World → Prop) (M1 : (Nat → Value) → World → Prop) : (Nat → Value) → World → Prop := denL Tryd.prog [(cd (Tryd.f8.body.getD .skip) [1, 1, 1, 0, 1, 0, 0, 0]), (cd (Tryd.f8.body.getD .skip) [1, 1, 1, 0, 1, 0, 0, 1, 0]), (cd (Tryd.f8.body.getD .skip) [1, 1, 1, 0, 1, 0, 0, 1, 1, 0])] (s8_p2_den K M1) (fun i => (bif Nat.beq i 0 then (s8_p1_den K) else (fun _ _ => False))) (s8_R K)
theorem s8_p3_ok (K : Value → World → Prop) (B1 : List Value → World → Prop) (s : Nat → Value) (w : World) (h : s8_p3 K B1 (s 3) (s 12) (s 13) (s 14) w) : Tr (s8_p3_den K (fun s w => B1 [s 3, s 12, s 13, s 14] w) s w) :=
  tr_simple (P := Tryd.prog) (codes := [(cd (Tryd.f8.body.getD .skip) [1, 1, 1, 0, 1, 0, 0, 0]), (cd (Tryd.f8.body.getD .skip) [1, 1, 1, 0, 1, 0, 0, 1, 0]), (cd (Tryd.f8.body.getD .skip) [1, 1, 1, 0, 1, 0, 0, 1, 1, 0])]) (N := (fun s w => s8_p2 K B1 (s 3) (s 12) (s 13) (s 14) w)) (N' := (s8_p2_den K (fun s w => B1 [s 3, s 12, s 13, s 14] w))) (X := (fun i => (bif Nat.beq i 0 then (fun s w => s8_p1 K w) else (fun _ _ => False)))) (X' := (fun i => (bif Nat.beq i 0 then (s8_p1_den K) else (fun _ _ => False)))) (R := s8_R K) (s := s) (w := w) (p := s8_p3 K B1 (s 3) (s 12) (s 13) (s 14) w) (q := s8_p3_den K (fun s w => B1 [s 3, s 12, s 13, s 14] w) s w) (fun s w h => s8_p2_ok K B1 s w @h) (fun i => (tr_bif (fun s w h => s8_p1_ok K s w @h) tr_id)) (by kernel_rfl) (by kernel_rfl) @h
def s8_p4_F (K : Value → World → Prop) (B1 : List Value → World → Prop) (l : List Value) (w : World) : Prop :=
  match l with
  | [t3, t12, t13, t14] => s8_p3 K B1 t3 t12 t13 t14 w
  | _ => False
theorem s8_p4_Fe {K : Value → World → Prop} {B1 : List Value → World → Prop} {t3 t12 t13 t14 : Value} {w : World} : s8_p4_F K B1 [t3, t12, t13, t14] w = s8_p3 K B1 t3 t12 t13 t14 w := by kernel_rfl
def s8_p4 (K : Value → World → Prop) (t3 t12 t13 t14 : Value) (w : World) : Prop :=
  LoopL (s8_p4_F K) [t3, t12, t13, t14] w
def s8_p4_den (K : Value → World → Prop) : (Nat → Value) → World → Prop := fun s w => LoopP (fun M1 s w => s8_p3_den K M1 s w) s w
theorem s8_p4_ok (K : Value → World → Prop) (s : Nat → Value) (w : World) (h : s8_p4 K (s 3) (s 12) (s 13) (s 14) w) : Tr (s8_p4_den K s w) :=
  tr_loop (G := fun N' s w => s8_p3_den K N' s w) (F := s8_p4_F K) (sel := fun s => [s 3, s 12, s 13, s 14]) (s := s) (w := w) (p := s8_p4 K (s 3) (s 12) (s 13) (s 14) w) (q := s8_p4_den K s w) (fun B s w h => s8_p3_ok K B s w @h) (by kernel_rfl) (by kernel_rfl) @h
def s8_p5 (K : Value → World → Prop) (t0 : Value) (w : World) : Prop :=
  cl Tryd.prog 11 #[t0] (fun t9 w =>
  un .not t9 (fun t10 w =>
  ifb t10
  (K (.bool true) w)
  (cl Tryd.prog 12 #[] (fun t11 w =>
  lnS t0 (fun t13 w =>
  s8_p4 K t11 t0 t13 (.int .i64 0) w) w) w)) w) w
def s8_p5_den (K : Value → World → Prop) : (Nat → Value) → World → Prop := denL Tryd.prog [(cd (Tryd.f8.body.getD .skip) [0]), (cd (Tryd.f8.body.getD .skip) [1, 0, 0]), (cd (Tryd.f8.body.getD .skip) [1, 0, 1]), (cd (Tryd.f8.body.getD .skip) [1, 1, 0]), (cd (Tryd.f8.body.getD .skip) [1, 1, 1, 0, 0])] (s8_p4_den K) (fun i => (fun _ _ => False)) (s8_R K)
theorem s8_p5_ok (K : Value → World → Prop) (s : Nat → Value) (w : World) (h : s8_p5 K (s 0) w) : Tr (s8_p5_den K s w) :=
  tr_simple (P := Tryd.prog) (codes := [(cd (Tryd.f8.body.getD .skip) [0]), (cd (Tryd.f8.body.getD .skip) [1, 0, 0]), (cd (Tryd.f8.body.getD .skip) [1, 0, 1]), (cd (Tryd.f8.body.getD .skip) [1, 1, 0]), (cd (Tryd.f8.body.getD .skip) [1, 1, 1, 0, 0])]) (N := (fun s w => s8_p4 K (s 3) (s 12) (s 13) (s 14) w)) (N' := (s8_p4_den K)) (X := (fun i => (fun _ _ => False))) (X' := (fun i => (fun _ _ => False))) (R := s8_R K) (s := s) (w := w) (p := s8_p5 K (s 0) w) (q := s8_p5_den K s w) (fun s w h => s8_p4_ok K s w @h) (fun i => tr_id) (by kernel_rfl) (by kernel_rfl) @h
/-- the call, from the text -/
theorem c8 (t0 : Value) {K : Value → World → Prop} {w : World} (h : s8_p5 K t0 w) : cl Tryd.prog 8 #[t0] K w :=
  calls_of_tr (c := (Tryd.f8.body.getD .skip)) (fn := Tryd.f8) (q := s8_p5_den K (st0 #[t0]) w) Tryd.func8 (by kernel_rfl) (by kernel_rfl) (Nat.le_of_ble_eq_true (by kernel_rfl)) (by kernel_rfl) (by kernel_rfl) (s8_p5_ok K (st0 #[t0]) w @h)

/-! ### function 9 : e2e.poollaw.AuditStaysClean -/
def s9_R (K : Value → World → Prop) (s : Nat → Value) (w : World) : Prop := retv Tryd.prog s Tryd.f9.results.toList (fun vs => K (pack vs) w) w
def s9_p1 (K : Value → World → Prop) (w : World) : Prop :=
  K (.bool true) w
def s9_p1_den (K : Value → World → Prop) : (Nat → Value) → World → Prop := denL Tryd.prog [(cd (Tryd.f9.body.getD .skip) [1, 1, 1, 1, 0]), (cd (Tryd.f9.body.getD .skip) [1, 1, 1, 1, 1])] (fun _ _ => False) (fun i => (fun _ _ => False)) (s9_R K)
theorem s9_p1_ok (K : Value → World → Prop) (s : Nat → Value) (w : World) (h : s9_p1 K w) : Tr (s9_p1_den K s w) :=
  tr_simple (P := Tryd.prog) (codes := [(cd (Tryd.f9.body.getD .skip) [1, 1, 1, 1, 0]), (cd (Tryd.f9.body.getD .skip) [1, 1, 1, 1, 1])]) (N := (fun _ _ => False)) (N' := (fun _ _ => False)) (X := (fun i => (fun _ _ => False))) (X' := (fun i => (fun _ _ => False))) (R := s9_R K) (s := s) (w := w) (p := s9_p1 K w) (q := s9_p1_den K s w) tr_id (fun i => tr_id) (by kernel_rfl) (by kernel_rfl) @h
def s9_p2 (K : Value → World → Prop) (B1 : List Value → World → Prop) (t3 t16 t17 t18 : Value) (w : World) : Prop :=
  boI .add t18 (.int .i64 1) (fun t77 w =>
  B1 [t3, t16, t17, t77] w) w
def s9_p2_den (K : Value → World → Prop) (M1 : (Nat → Value) → World → Prop) : (Nat → Value) → World → Prop := denL Tryd.prog [(cd (Tryd.f9.body.getD .skip) [1, 1, 1, 0, 1, 0, 0, 1, 1, 1])] M1 (fun i => (bif Nat.beq i 0 then (s9_p1_den K) else (fun _ _ => False))) (s9_R K)
theorem s9_p2_ok (K : Value → World → Prop) (B1 : List Value → World → Prop) (s : Nat → Value) (w : World) (h : s9_p2 K B1 (s 3) (s 16) (s 17) (s 18) w) : Tr (s9_p2_den K (fun s w => B1 [s 3, s 16, s 17, s 18] w) s w) :=
  tr_simple (P := Tryd.prog) (codes := [(cd (Tryd.f9.body.getD .skip) [1, 1, 1, 0, 1, 0, 0, 1, 1, 1])]) (N := (fun s w => B1 [s 3, s 16, s 17, s 18] w)) (N' := (fun s w => B1 [s 3, s 16, s 17, s 18] w)) (X := (fun i => (bif Nat.beq i 0 then (fun s w => s9_p1 K w) else (fun _ _ => False)))) (X' := (fun i => (bif Nat.beq i 0 then (s9_p1_den K) else (fun _ _ => False)))) (R := s9_R K) (s := s) (w := w) (p := s9_p2 K B1 (s 3) (s 16) (s 17) (s 18) w) (q := s9_p2_den K (fun s w => B1 [s 3, s 16, s 17, s 18] w) s w) tr_id (fun i => (tr_bif (fun s w h => s9_p1_ok K s w @h) tr_id)) (by kernel_rfl) (by kernel_rfl) @h
def s9_p3 (K : Value → World → Prop) (B1 : List Value → World → Prop) (t3 t6 t8 t9 t16 t17 t18 : Value) (w : World) : Prop :=
  boI .neq t8 (.int .i64 0) (fun t71 w =>
  gd t71 false (fun K w => K t6 w) (fun t73 w =>
  gd t71 false (fun K w => K t9 w) (fun t74 w =>
  gd t71 false (boI .neq t73 t74) (fun t75 w =>
  pk t71 (.bool true) t75 (fun t76 w =>
  ifb t76
  (K (.bool false) w)
  (s9_p2 K B1 t3 t16 t17 t18 w)) w) w) w) w) w
def s9_p3_den (K : Value → World → Prop) (M1 : (Nat → Value) → World → Prop) : (Nat → Value) → World → Prop := denL Tryd.prog [(cd (Tryd.f9.body.getD .skip) [1, 1, 1, 0, 1, 0, 0, 1, 1, 0, 0, 1, 1, 1, 1, 1, 1, 1, 0]), (cd (Tryd.f9.body.getD .skip) [1, 1, 1, 0, 1, 0, 0, 1, 1, 0, 0, 1, 1, 1, 1, 1, 1, 1, 1])] (s9_p2_den K M1) (fun i => (bif Nat.beq i 1 then (s9_p2_den K M1) else (bif Nat.beq i 0 then (s9_p1_den K) else (fun _ _ => False)))) (s9_R K)
theorem s9_p3_ok (K : Value → World → Prop) (B1 : List Value → World → Prop) (s : Nat → Value) (w : World) (h : s9_p3 K B1 (s 3) (s 6) (s 8) (s 9) (s 16) (s 17) (s 18) w) : Tr (s9_p3_den K (fun s w => B1 [s 3, s 16, s 17, s 18] w) s w) :=
  tr_simple (P := Tryd.prog) (codes := [(cd (Tryd.f9.body.getD .skip) [1, 1, 1, 0, 1, 0, 0, 1, 1, 0, 0, 1, 1, 1, 1, 1, 1, 1, 0]), (cd (Tryd.f9.body.getD .skip) [1, 1, 1, 0, 1, 0, 0, 1, 1, 0, 0, 1, 1, 1, 1, 1, 1, 1, 1])]) (N := (fun s w => s9_p2 K B1 (s 3) (s 16) (s 17) (s 18) w)) (N' := (s9_p2_den K (fun s w => B1 [s 3, s 16, s 17, s 18] w))) (X := (fun i => (bif Nat.beq i 1 then (fun s w => s9_p2 K B1 (s 3) (s 16) (s 17) (s 18) w) else (bif Nat.beq i 0 then (fun s w => s9_p1 K w) else (fun _ _ => False))))) (X' := (fun i => (bif Nat.beq i 1 then (s9_p2_den K (fun s w => B1 [s 3, s 16, s 17, s 18] w)) else (bif Nat.beq i 0 then (s9_p1_den K) else (fun _ _ => False))))) (R := s9_R K) (s := s) (w := w) (p := s9_p3 K B1 (s 3) (s 6) (s 8) (s 9) (s 16) (s 17) (s 18) w) (q := s9_p3_den K (fun s w => B1 [s 3, s 16, s 17, s 18] w) s w) (fun s w h => s9_p2_ok K B1 s w @h) (fun i => (tr_bif (fun s w h => s9_p2_ok K B1 s w @h) (tr_bif (fun s w h => s9_p1_ok K s w @h) tr_id))) (by kernel_rfl) (by kernel_rfl) @h
def s9_p4 (K : Value → World → Prop) (B1 : List Value → World → Prop) (B2 : List Value → World → Prop) (t3 t6 t8 t9 t16 t17 t18 t57 t58 t59 : Value) (w : World) : Prop :=
  boI .lss t59 t58 (fun t60 w =>
  ifb t60
  (ixs 3 t57 t59 (fun t61 w =>
  ldn 3 t61 (fun t62 w =>
  nw 66 #[(.int .i64 0), (.int .u32 0), (.slice none 0 0)] (fun t11 w =>
  stn 3 t11 t62 (fun w =>
  fd 2 t11 (fun t64 w =>
  ld1 t64 (fun t65 w =>
  lnS t65 (fun t66 w =>
  cvi .u64 t66 (fun t67 w =>
  boI .add t9 t67 (fun t68 w =>
  boI .add t59 (.int .i64 1) (fun t69 w =>
  B2 [t3, t6, t8, t68, t16, t17, t18, t57, t58, t69] w) w) w) w) w) w) w) w) w) w) w)
  (s9_p3 K B1 t3 t6 t8 t9 t16 t17 t18 w)) w
def s9_p4_den (K : Value → World → Prop) (M1 : (Nat → Value) → World → Prop) (M2 : (Nat → Value) → World → Prop) : (Nat → Value) → World → Prop := denL Tryd.prog [(cd (Tryd.f9.body.getD .skip) [1, 1, 1, 0, 1, 0, 0, 1, 1, 0, 0, 1, 1, 1, 1, 1, 1, 0, 1, 0, 0, 0]), (cd (Tryd.f9.body.getD .skip) [1, 1, 1, 0, 1, 0, 0, 1, 1, 0, 0, 1, 1, 1, 1, 1, 1, 0, 1, 0, 0, 1, 0]), (cd (Tryd.f9.body.getD .skip) [1, 1, 1, 0, 1, 0, 0, 1, 1, 0, 0, 1, 1, 1, 1, 1, 1, 0, 1, 0, 0, 1, 1, 0]), (cd (Tryd.f9.body.getD .skip) [1, 1, 1, 0, 1, 0, 0, 1, 1, 0, 0, 1, 1, 1, 1, 1, 1, 0, 1, 0, 0, 1, 1, 1])] M2 (fun i => (bif Nat.beq i 2 then (s9_p3_den K M1) else (bif Nat.beq i 1 then (s9_p2_den K M1) else (bif Nat.beq i 0 then (s9_p1_den K) else (fun _ _ => False))))) (s9_R K)
theorem s9_p4_ok (K : Value → World → Prop) (B1 : List Value → World → Prop) (B2 : List Value → World → Prop) (s : Nat → Value) (w : World) (h : s9_p4 K B1 B2 (s 3) (s 6) (s 8) (s 9) (s 16) (s 17) (s 18) (s 57) (s 58) (s 59) w) : Tr (s9_p4_den K (fun s w => B1 [s 3, s 16, s 17, s 18] w) (fun s w => B2 [s 3, s 6, s 8, s 9, s 16, s 17, s 18, s 57, s 58, s 59] w) s w) :=
  tr_simple (P := Tryd.prog) (codes := [(cd (Tryd.f9.body.getD .skip) [1, 1, 1, 0, 1, 0, 0, 1, 1, 0, 0, 1, 1, 1, 1, 1, 1, 0, 1, 0, 0, 0]), (cd (Tryd.f9.body.getD .skip) [1, 1, 1, 0, 1, 0, 0, 1, 1, 0, 0, 1, 1, 1, 1, 1, 1, 0, 1, 0, 0, 1, 0]), (cd (Tryd.f9.body.getD .skip) [1, 1, 1, 0, 1, 0, 0, 1, 1, 0, 0, 1, 1, 1, 1, 1, 1, 0, 1, 0, 0, 1, 1, 0]), (cd (Tryd.f9.body.getD .skip) [1, 1, 1, 0, 1, 0, 0, 1, 1, 0, 0, 1, 1, 1, 1, 1, 1, 0, 1, 0, 0, 1, 1, 1])]) (N := (fun s w => B2 [s 3, s 6, s 8, s 9, s 16, s 17, s 18, s 57, s 58, s 59] w)) (N' := (fun s w => B2 [s 3, s 6, s 8, s 9, s 16, s 17, s 18, s 57, s 58, s 59] w)) (X := (fun i => (bif Nat.beq i 2 then (fun s w => s9_p3 K B1 (s 3) (s 6) (s 8) (s 9) (s 16) (s 17) (s 18) w) else (bif Nat.beq i 1 then (fun s w => s9_p2 K B1 (s 3) (s 16) (s 17) (s 18) w) else (bif Nat.beq i 0 then (fun s w => s9_p1 K w) else (fun _ _ => False)))))) (X' := (fun i => (bif Nat.beq i 2 then (s9_p3_den K (fun s w => B1 [s 3, s 16, s 17, s 18] w)) else (bif Nat.beq i 1 then (s9_p2_den K (fun s w => B1 [s 3, s 16, s 17, s 18] w)) else (bif Nat.beq i 0 then (s9_p1_den K) else (fun _ _ => False)))))) (R := s9_R K) (s := s) (w := w) (p := s9_p4 K B1 B2 (s 3) (s 6) (s 8) (s 9) (s 16) (s 17) (s 18) (s 57) (s 58) (s 59) w) (q := s9_p4_den K (fun s w => B1 [s 3, s 16, s 17, s 18] w) (fun s w => B2 [s 3, s 6, s 8, s 9, s 16, s 17, s 18, s 57, s 58, s 59] w) s w) tr_id (fun i => (tr_bif (fun s w h => s9_p3_ok K B1 s w @h) (tr_bif (fun s w h => s9_p2_ok K B1 s w @h) (tr_bif (fun s w h => s9_p1_ok K s w @h) tr_id)))) (by kernel_rfl) (by kernel_rfl) @h
def s9_p5_F (K : Value → World → Prop) (B1 : List Value → World → Prop) (B2 : List Value → World → Prop) (l : List Value) (w : World) : Prop :=
  match l with
  | [t3, t6, t8, t9, t16, t17, t18, t57, t58, t59] => s9_p4 K B1 B2 t3 t6 t8 t9 t16 t17 t18 t57 t58 t59 w
  | _ => False
theorem s9_p5_Fe {K : Value → World → Prop} {B1 : List Value → World → Prop} {B2 : List Value → World → Prop} {t3 t6 t8 t9 t16 t17 t18 t57 t58 t59 : Value} {w : World} : s9_p5_F K B1 B2 [t3, t6, t8, t9, t16, t17, t18, t57, t58, t59] w = s9_p4 K B1 B2 t3 t6 t8 t9 t16 t17 t18 t57 t58 t59 w := by kernel_rfl
def s9_p5 (K : Value → World → Prop) (B1 : List Value → World → Prop) (t3 t6 t8 t9 t16 t17 t18 t57 t58 t59 : Value) (w : World) : Prop :=
  LoopL (s9_p5_F K B1) [t3, t6, t8, t9, t16, t17, t18, t57, t58, t59] w
def s9_p5_den (K : Value → World → Prop) (M1 : (Nat → Value) → World → Prop) : (Nat → Value) → World → Prop := fun s w => LoopP (fun M2 s w => s9_p4_den K M1 M2 s w) s w
theorem s9_p5_ok (K : Value → World → Prop) (B1 : List Value → World → Prop) (s : Nat → Value) (w : World) (h : s9_p5 K B1 (s 3) (s 6) (s 8) (s 9) (s 16) (s 17) (s 18) (s 57) (s 58) (s 59) w) : Tr (s9_p5_den K (fun s w => B1 [s 3, s 16, s 17, s 18] w) s w) :=
  tr_loop (G := fun N' s w => s9_p4_den K (fun s w => B1 [s 3, s 16, s 17, s 18] w) N' s w) (F := s9_p5_F K B1) (sel := fun s => [s 3, s 6, s 8, s 9, s 16, s 17, s 18, s 57, s 58, s 59]) (s := s) (w := w) (p := s9_p5 K B1 (s 3) (s 6) (s 8) (s 9) (s 16) (s 17) (s 18) (s 57) (s 58) (s 59) w) (q := s9_p5_den K (fun s w => B1 [s 3, s 16, s 17, s 18] w) s w) (fun B s w h => s9_p4_ok K B1 B s w @h) (by kernel_rfl) (by kernel_rfl) @h
def s9_p6 (K : Value → World → Prop) (B1 : List Value → World → Prop) (t3 t16 t17 t18 : Value) (w : World) : Prop :=
  ixs 4 t16 t18 (fun t20 w =>
  ldn 4 t20 (fun t21 w =>
  nw 28 #[(.int .u8 0), (.int .i64 0), (.int .i64 0), (.int .i64 0)] (fun t5 w =>
  stn 4 t5 t21 (fun w =>
  fd 0 t5 (fun t22 w =>
  ld1 t22 (fun t23 w =>
  boI .eql t23 (.int .u8 8) (fun t24 w =>
  ifb t24
  (s9_p2 K B1 t3 t16 t17 t18 w)
  (ldn 4 t5 (fun t27 w =>
  cl Tryd.prog 13 #[t3, t27] (fun t28 w =>
  cl Tryd.prog 14 #[t3, t28] (fun t29 w =>
  nck t3 (fun t31 w =>
  fd 1 t31 (fun t32 w =>
  ld1 t32 (fun t33 w =>
  cl Tryd.prog 24 #[t33] (fun t34 w =>
  boI .neq t34 (.int .i64 0) (fun t35 w =>
  gd t35 false (fun K w => K t3 w) (fun t37 w =>
  gd t35 false (nck t37) (fun t38 w =>
  gd t35 false (fd 0 t38) (fun t39 w =>
  gd t35 false (ld1 t39) (fun t40 w =>
  gd t35 false (cl Tryd.prog 25 #[t40]) (fun t41 w =>
  gd t35 false (lnS t41) (fun t42 w =>
  gd t35 false (boI .neq t42 (.int .i64 0)) (fun t43 w =>
  pk t35 (.bool true) t43 (fun t44 w =>
  ifb t44
  (K (.bool false) w)
  (nck t3 (fun t47 w =>
  fd 1 t47 (fun t48 w =>
  ld1 t48 (fun t49 w =>
  cl Tryd.prog 26 #[t49] (fun t50 w =>
  exq t50 0 (fun t51 w =>
  exq t50 1 (fun t52 w =>
  exq t50 2 (fun t53 w =>
  nck t3 (fun t55 w =>
  fd 3 t55 (fun t56 w =>
  ld1 t56 (fun t57 w =>
  lnS t57 (fun t58 w =>
  s9_p5 K B1 t3 t51 t53 (.int .u64 0) t16 t17 t18 t57 t58 (.int .i64 0) w) w) w) w) w) w) w) w) w) w) w) w)) w) w) w) w) w) w) w) w) w) w) w) w) w) w) w) w)) w) w) w) w) w) w) w
def s9_p6_den (K : Value → World → Prop) (M1 : (Nat → Value) → World → Prop) : (Nat → Value) → World → Prop := denL Tryd.prog [(cd (Tryd.f9.body.getD .skip) [1, 1, 1, 0, 1, 0, 0, 1, 1, 0, 0, 0]), (cd (Tryd.f9.body.getD .skip) [1, 1, 1, 0, 1, 0, 0, 1, 1, 0, 0, 1, 0, 0]), (cd (Tryd.f9.body.getD .skip) [1, 1, 1, 0, 1, 0, 0, 1, 1, 0, 0, 1, 0, 1]), (cd (Tryd.f9.body.getD .skip) [1, 1, 1, 0, 1, 0, 0, 1, 1, 0, 0, 1, 1, 0]), (cd (Tryd.f9.body.getD .skip) [1, 1, 1, 0, 1, 0, 0, 1, 1, 0, 0, 1, 1, 1, 0, 0]), (cd (Tryd.f9.body.getD .skip) [1, 1, 1, 0, 1, 0, 0, 1, 1, 0, 0, 1, 1, 1, 0, 1]), (cd (Tryd.f9.body.getD .skip) [1, 1, 1, 0, 1, 0, 0, 1, 1, 0, 0, 1, 1, 1, 1, 0]), (cd (Tryd.f9.body.getD .skip) [1, 1, 1, 0, 1, 0, 0, 1, 1, 0, 0, 1, 1, 1, 1, 1, 0]), (cd (Tryd.f9.body.getD .skip) [1, 1, 1, 0, 1, 0, 0, 1, 1, 0, 0, 1, 1, 1, 1, 1, 1, 0, 0])] (s9_p5_den K M1) (fun i => (bif Nat.beq i 1 then (s9_p2_den K M1) else (bif Nat.beq i 0 then (s9_p1_den K) else (fun _ _ => False)))) (s9_R K)
theorem s9_p6_ok (K : Value → World → Prop) (B1 : List Value → World → Prop) (s : Nat → Value) (w : World) (h : s9_p6 K B1 (s 3) (s 16) (s 17) (s 18) w) : Tr (s9_p6_den K (fun s w => B1 [s 3, s 16, s 17, s 18] w) s w) :=
  tr_simple (P := Tryd.prog) (codes := [(cd (Tryd.f9.body.getD .skip) [1, 1, 1, 0, 1, 0, 0, 1, 1, 0, 0, 0]), (cd (Tryd.f9.body.getD .skip) [1, 1, 1, 0, 1, 0, 0, 1, 1, 0, 0, 1, 0, 0]), (cd (Tryd.f9.body.getD .skip) [1, 1, 1, 0, 1, 0, 0, 1, 1, 0, 0, 1, 0, 1]), (cd (Tryd.f9.body.getD .skip) [1, 1, 1, 0, 1, 0, 0, 1, 1, 0, 0, 1, 1, 0]), (cd (Tryd.f9.body.getD .skip) [1, 1, 1, 0, 1, 0, 0, 1, 1, 0, 0, 1, 1, 1, 0, 0]), (cd (Tryd.f9.body.getD .skip) [1, 1, 1, 0, 1, 0, 0, 1, 1, 0, 0, 1, 1, 1, 0, 1]), (cd (Tryd.f9.body.getD .skip) [1, 1, 1, 0, 1, 0, 0, 1, 1, 0, 0, 1, 1, 1, 1, 0]), (cd (Tryd.f9.body.getD .skip) [1, 1, 1, 0, 1, 0, 0, 1, 1, 0, 0, 1, 1, 1, 1, 1, 0]), (cd (Tryd.f9.body.getD .skip) [1, 1, 1, 0, 1, 0, 0, 1, 1, 0, 0, 1, 1, 1, 1, 1, 1, 0, 0])]) (N := (fun s w => s9_p5 K B1 (s 3) (s 6) (s 8) (s 9) (s 16) (s 17) (s 18) (s 57) (s 58) (s 59) w)) (N' := (s9_p5_den K (fun s w => B1 [s 3, s 16, s 17, s 18] w))) (X := (fun i => (bif Nat.beq i 1 then (fun s w => s9_p2 K B1 (s 3) (s 16) (s 17) (s 18) w) else (bif Nat.beq i 0 then (fun s w => s9_p1 K w) else (fun _ _ => False))))) (X' := (fun i => (bif Nat.beq i 1 then (s9_p2_den K (fun s w => B1 [s 3, s 16, s 17, s 18] w)) else (bif Nat.beq i 0 then (s9_p1_den K) else (fun _ _ => False))))) (R := s9_R K) (s := s) (w := w) (p := s9_p6 K B1 (s 3) (s 16) (s 17) (s 18) w) (q := s9_p6_den K (fun s w => B1 [s 3, s 16, s 17, s 18] w) s w) (fun s w h => s9_p5_ok K B1 s w @h) (fun i => (tr_bif (fun s w h => s9_p2_ok K B1 s w @h) (tr_bif (fun s w h => s9_p1_ok K s w @h) tr_id))) (by kernel_rfl) (by kernel_rfl) @h
def s9_p7 (K : Value → World → Prop) (B1 : List Value → World → Prop) (t3 t16 t17 t18 : Value) (w : World) : Prop :=
  boI .lss t18 t17 (fun t19 w =>
  ifb t19
  (s9_p6 K B1 t3 t16 t17 t18 w)
  (s9_p1 K w)) w
def s9_p7_den (K : Value → World → Prop) (M1 : (Nat → Value) → World → Prop) : (Nat → Value) → World → Prop := denL Tryd.prog [(cd (Tryd.f9.body.getD .skip) [1, 1, 1, 0, 1, 0, 0, 0]), (cd (Tryd.f9.body.getD .skip) [1, 1, 1, 0, 1, 0, 0, 1, 0])] (s9_p6_den K M1) (fun i => (bif Nat.beq i 0 then (s9_p1_den K) else (fun _ _ => False))) (s9_R K)
theorem s9_p7_ok (K : Value → World → Prop) (B1 : List Value → World → Prop) (s : Nat → Value) (w : World) (h : s9_p7 K B1 (s 3) (s 16) (s 17) (s 18) w) : Tr (s9_p7_den K (fun s w => B1 [s 3, s 16, s 17, s 18] w) s w) :=
  tr_simple (P := Tryd.prog) (codes := [(cd (Tryd.f9.body.getD .skip) [1, 1, 1, 0, 1, 0, 0, 0]), (cd (Tryd.f9.body.getD .skip) [1, 1, 1, 0, 1, 0, 0, 1, 0])]) (N := (fun s w => s9_p6 K B1 (s 3) (s 16) (s 17) (s 18) w)) (N' := (s9_p6_den K (fun s w => B1 [s 3, s 16, s 17, s 18] w))) (X := (fun i => (bif Nat.beq i 0 then (fun s w => s9_p1 K w) else (fun _ _ => False)))) (X' := (fun i => (bif Nat.beq i 0 then (s9_p1_den K) else (fun _ _ => False)))) (R := s9_R K) (s := s) (w := w) (p := s9_p7 K B1 (s 3) (s 16) (s 17) (s 18) w) (q := s9_p7_den K (fun s w => B1 [s 3, s 16, s 17, s 18] w) s w) (fun s w h => s9_p6_ok K B1 s w @h) (fun i => (tr_bif (fun s w h => s9_p1_ok K s w @h) tr_id)) (by kernel_rfl) (by kernel_rfl) @h
def s9_p8_F (K : Value → World → Prop) (B1 : List Value → World → Prop) (l : List Value) (w : World) : Prop :=
  match l with
  | [t3, t16, t17, t18] => s9_p7 K B1 t3 t16 t17 t18 w
  | _ => False
theorem s9_p8_Fe {K : Value → World → Prop} {B1 : List Value → World → Prop} {t3 t16 t17 t18 : Value} {w : World} : s9_p8_F K B1 [t3, t16, t17, t18] w = s9_p7 K B1 t3 t16 t17 t18 w := by kernel_rfl
def s9_p8 (K : Value → World → Prop) (t3 t16 t17 t18 : Value) (w : World) : Prop :=
  LoopL (s9_p8_F K) [t3, t16, t17, t18] w
def s9_p8_den (K : Value → World → Prop) : (Nat → Value) → World → Prop := fun s w => LoopP (fun M1 s w => s9_p7_den K M1 s w) s w
theorem s9_p8_ok (K : Value → World → Prop) (s : Nat → Value) (w : World) (h : s9_p8 K (s 3) (s 16) (s 17) (s 18) w) : Tr (s9_p8_den K s w) :=
  tr_loop (G := fun N' s w => s9_p7_den K N' s w) (F := s9_p8_F K) (sel := fun s => [s 3, s 16, s 17, s 18]) (s := s) (w := w) (p := s9_p8 K (s 3) (s 16) (s 17) (s 18) w) (q := s9_p8_den K s w) (fun B s w h => s9_p7_ok K B s w @h) (by kernel_rfl) (by kernel_rfl) @h
def s9_p9 (K : Value → World → Prop) (t0 : Value) (w : World) : Prop :=
  cl Tryd.prog 11 #[t0] (fun t13 w =>
  un .not t13 (fun t14 w =>
  ifb t14
  (K (.bool true) w)
  (cl Tryd.prog 12 #[] (fun t15 w =>
  lnS t0 (fun t17 w =>
  s9_p8 K t15 t0 t17 (.int .i64 0) w) w) w)) w) w
def s9_p9_den (K : Value → World → Prop) : (Nat → Value) → World → Prop := denL Tryd.prog [(cd (Tryd.f9.body.getD .skip) [0]), (cd (Tryd.f9.body.getD .skip) [1, 0, 0]), (cd (Tryd.f9.body.getD .skip) [1, 0, 1]), (cd (Tryd.f9.body.getD .skip) [1, 1, 0]), (cd (Tryd.f9.body.getD .skip) [1, 1, 1, 0, 0])] (s9_p8_den K) (fun i => (fun _ _ => False)) (s9_R K)
theorem s9_p9_ok (K : Value → World → Prop) (s : Nat → Value) (w : World) (h : s9_p9 K (s 0) w) : Tr (s9_p9_den K s w) :=
  tr_simple (P := Tryd.prog) (codes := [(cd (Tryd.f9.body.getD .skip) [0]), (cd (Tryd.f9.body.getD .skip) [1, 0, 0]), (cd (Tryd.f9.body.getD .skip) [1, 0, 1]), (cd (Tryd.f9.body.getD .skip) [1, 1, 0]), (cd (Tryd.f9.body.getD .skip) [1, 1, 1, 0, 0])]) (N := (fun s w => s9_p8 K (s 3) (s 16) (s 17) (s 18) w)) (N' := (s9_p8_den K)) (X := (fun i => (fun _ _ => False))) (X' := (fun i => (fun _ _ => False))) (R := s9_R K) (s := s) (w := w) (p := s9_p9 K (s 0) w) (q := s9_p9_den K s w) (fun s w h => s9_p8_ok K s w @h) (fun i => tr_id) (by kernel_rfl) (by kernel_rfl) @h
/-- the call, from the text -/
theorem c9 (t0 : Value) {K : Value → World → Prop} {w : World} (h : s9_p9 K t0 w) : cl Tryd.prog 9 #[t0] K w :=
  calls_of_tr (c := (Tryd.f9.body.getD .skip)) (fn := Tryd.f9) (q := s9_p9_den K (st0 #[t0]) w) Tryd.func9 (by kernel_rfl) (by kernel_rfl) (Nat.le_of_ble_eq_true (by kernel_rfl)) (by kernel_rfl) (by kernel_rfl) (s9_p9_ok K (st0 #[t0]) w @h)

/-! ### function 10 : e2e.poollaw.SurvivesScribbles -/
def s10_R (K : Value → World → Prop) (s : Nat → Value) (w : World) : Prop := retv Tryd.prog s Tryd.f10.results.toList (fun vs => K (pack vs) w) w
def s10_p1 (K : Value → World → Prop) (w : World) : Prop :=
  K (.bool true) w
def s10_p1_den (K : Value → World → Prop) : (Nat → Value) → World → Prop := denL Tryd.prog [(cd (Tryd.f10.body.getD .skip) [1, 1, 1, 1, 0]), (cd (Tryd.f10.body.getD .skip) [1, 1, 1, 1, 1])] (fun _ _ => False) (fun i => (fun _ _ => False)) (s10_R K)
theorem s10_p1_ok (K : Value → World → Prop) (s : Nat → Value) (w : World) (h : s10_p1 K w) : Tr (s10_p1_den K s w) :=
  tr_simple (P := Tryd.prog) (codes := [(cd (Tryd.f10.body.getD .skip) [1, 1, 1, 1, 0]), (cd (Tryd.f10.body.getD .skip) [1, 1, 1, 1, 1])]) (N := (fun _ _ => False)) (N' := (fun _ _ => False)) (X := (fun i => (fun _ _ => False))) (X' := (fun i => (fun _ _ => False))) (R := s10_R K) (s := s) (w := w) (p := s10_p1 K w) (q := s10_p1_den K s w) tr_id (fun i => tr_id) (by kernel_rfl) (by kernel_rfl) @h
def s10_p2 (K : Value → World → Prop) (B1 : List Value → World → Prop) (t3 t17 t18 t19 : Value) (w : World) : Prop :=
  boI .add t19 (.int .i64 1) (fun t112 w =>
  B1 [t3, t17, t18, t112] w) w
def s10_p2_den (K : Value → World → Prop) (M1 : (Nat → Value) → World → Prop) : (Nat → Value) → World → Prop := denL Tryd.prog [(cd (Tryd.f10.body.getD .skip) [1, 1, 1, 0, 1, 0, 0, 1, 1, 1])] M1 (fun i => (bif Nat.beq i 0 then (s10_p1_den K) else (fun _ _ => False))) (s10_R K)
theorem s10_p2_ok (K : Value → World → Prop) (B1 : List Value → World → Prop) (s : Nat → Value) (w : World) (h : s10_p2 K B1 (s 3) (s 17) (s 18) (s 19) w) : Tr (s10_p2_den K (fun s w => B1 [s 3, s 17, s 18, s 19] w) s w) :=
  tr_simple (P := Tryd.prog) (codes := [(cd (Tryd.f10.body.getD .skip) [1, 1, 1, 0, 1, 0, 0, 1, 1, 1])]) (N := (fun s w => B1 [s 3, s 17, s 18, s 19] w)) (N' := (fun s w => B1 [s 3, s 17, s 18, s 19] w)) (X := (fun i => (bif Nat.beq i 0 then (fun s w => s10_p1 K w) else (fun _ _ => False)))) (X' := (fun i => (bif Nat.beq i 0 then (s10_p1_den K) else (fun _ _ => False)))) (R := s10_R K) (s := s) (w := w) (p := s10_p2 K B1 (s 3) (s 17) (s 18) (s 19) w) (q := s10_p2_den K (fun s w => B1 [s 3, s 17, s 18, s 19] w) s w) tr_id (fun i => (tr_bif (fun s w h => s10_p1_ok K s w @h) tr_id)) (by kernel_rfl) (by kernel_rfl) @h
def s10_p3 (K : Value → World → Prop) (B1 : List Value → World → Prop) (t3 t17 t18 t19 : Value) (w : World) : Prop :=
  nck t3 (fun t101 w =>
  fd 1 t101 (fun t102 w =>
  ld1 t102 (fun t103 w =>
  cl Tryd.prog 24 #[t103] (fun t104 w =>
  nck t3 (fun t106 w =>
  fd 0 t106 (fun t107 w =>
  ld1 t107 (fun t108 w =>
  cl Tryd.prog 25 #[t108] (fun t109 w =>
  lnS t109 (fun t110 w =>
  boI .neq t110 (.int .i64 0) (fun t111 w =>
  ifb t111
  (K (.bool false) w)
  (s10_p2 K B1 t3 t17 t18 t19 w)) w) w) w) w) w) w) w) w) w) w
def s10_p3_den (K : Value → World → Prop) (M1 : (Nat → Value) → World → Prop) : (Nat → Value) → World → Prop := denL Tryd.prog [(cd (Tryd.f10.body.getD .skip) [1, 1, 1, 0, 1, 0, 0, 1, 1, 0, 0, 1, 1, 1, 1, 1, 1, 1, 0]), (cd (Tryd.f10.body.getD .skip) [1, 1, 1, 0, 1, 0, 0, 1, 1, 0, 0, 1, 1, 1, 1, 1, 1, 1, 1, 0]), (cd (Tryd.f10.body.getD .skip) [1, 1, 1, 0, 1, 0, 0, 1, 1, 0, 0, 1, 1, 1, 1, 1, 1, 1, 1, 1])] (s10_p2_den K M1) (fun i => (bif Nat.beq i 1 then (s10_p2_den K M1) else (bif Nat.beq i 0 then (s10_p1_den K) else (fun _ _ => False)))) (s10_R K)
theorem s10_p3_ok (K : Value → World → Prop) (B1 : List Value → World → Prop) (s : Nat → Value) (w : World) (h : s10_p3 K B1 (s 3) (s 17) (s 18) (s 19) w) : Tr (s10_p3_den K (fun s w => B1 [s 3, s 17, s 18, s 19] w) s w) :=
  tr_simple (P := Tryd.prog) (codes := [(cd (Tryd.f10.body.getD .skip) [1, 1, 1, 0, 1, 0, 0, 1, 1, 0, 0, 1, 1, 1, 1, 1, 1, 1, 0]), (cd (Tryd.f10.body.getD .skip) [1, 1, 1, 0, 1, 0, 0, 1, 1, 0, 0, 1, 1, 1, 1, 1, 1, 1, 1, 0]), (cd (Tryd.f10.body.getD .skip) [1, 1, 1, 0, 1, 0, 0, 1, 1, 0, 0, 1, 1, 1, 1, 1, 1, 1, 1, 1])]) (N := (fun s w => s10_p2 K B1 (s 3) (s 17) (s 18) (s 19) w)) (N' := (s10_p2_den K (fun s w => B1 [s 3, s 17, s 18, s 19] w))) (X := (fun i => (bif Nat.beq i 1 then (fun s w => s10_p2 K B1 (s 3) (s 17) (s 18) (s 19) w) else (bif Nat.beq i 0 then (fun s w => s10_p1 K w) else (fun _ _ => False))))) (X' := (fun i => (bif Nat.beq i 1 then (s10_p2_den K (fun s w => B1 [s 3, s 17, s 18, s 19] w)) else (bif Nat.beq i 0 then (s10_p1_den K) else (fun _ _ => False))))) (R := s10_R K) (s := s) (w := w) (p := s10_p3 K B1 (s 3) (s 17) (s 18) (s 19) w) (q := s10_p3_den K (fun s w => B1 [s 3, s 17, s 18, s 19] w) s w) (fun s w h => s10_p2_ok K B1 s w @h) (fun i => (tr_bif (fun s w h => s10_p2_ok K B1 s w @h) (tr_bif (fun s w h => s10_p1_ok K s w @h) tr_id))) (by kernel_rfl) (by kernel_rfl) @h
def s10_p4 (K : Value → World → Prop) (B1 : List Value → World → Prop) (t3 t17 t18 t19 t99 : Value) (w : World) : Prop :=
  ifb t99
  (K (.bool false) w)
  (s10_p3 K B1 t3 t17 t18 t19 w)
def s10_p4_den (K : Value → World → Prop) (M1 : (Nat → Value) → World → Prop) : (Nat → Value) → World → Prop := denL Tryd.prog [(cd (Tryd.f10.body.getD .skip) [1, 1, 1, 0, 1, 0, 0, 1, 1, 0, 0, 1, 1, 1, 1, 1, 1, 0, 1, 0, 1, 1, 1])] (s10_p3_den K M1) (fun i => (bif Nat.beq i 1 then (s10_p2_den K M1) else (bif Nat.beq i 0 then (s10_p1_den K) else (fun _ _ => False)))) (s10_R K)
theorem s10_p4_ok (K : Value → World → Prop) (B1 : List Value → World → Prop) (s : Nat → Value) (w : World) (h : s10_p4 K B1 (s 3) (s 17) (s 18) (s 19) (s 99) w) : Tr (s10_p4_den K (fun s w => B1 [s 3, s 17, s 18, s 19] w) s w) :=
  tr_simple (P := Tryd.prog) (codes := [(cd (Tryd.f10.body.getD .skip) [1, 1, 1, 0, 1, 0, 0, 1, 1, 0, 0, 1, 1, 1, 1, 1, 1, 0, 1, 0, 1, 1, 1])]) (N := (fun s w => s10_p3 K B1 (s 3) (s 17) (s 18) (s 19) w)) (N' := (s10_p3_den K (fun s w => B1 [s 3, s 17, s 18, s 19] w))) (X := (fun i => (bif Nat.beq i 1 then (fun s w => s10_p2 K B1 (s 3) (s 17) (s 18) (s 19) w) else (bif Nat.beq i 0 then (fun s w => s10_p1 K w) else (fun _ _ => False))))) (X' := (fun i => (bif Nat.beq i 1 then (s10_p2_den K (fun s w => B1 [s 3, s 17, s 18, s 19] w)) else (bif Nat.beq i 0 then (s10_p1_den K) else (fun _ _ => False))))) (R := s10_R K) (s := s) (w := w) (p := s10_p4 K B1 (s 3) (s 17) (s 18) (s 19) (s 99) w) (q := s10_p4_den K (fun s w => B1 [s 3, s 17, s 18, s 19] w) s w) (fun s w h => s10_p3_ok K B1 s w @h) (fun i => (tr_bif (fun s w h => s10_p2_ok K B1 s w @h) (tr_bif (fun s w h => s10_p1_ok K s w @h) tr_id))) (by kernel_rfl) (by kernel_rfl) @h
def s10_p5_d (K : Value → World → Prop) (B1 : List Value → World → Prop) (t3 t10 t12 t17 t18 t19 : Value) (w0 w : World) : Prop :=
  boI .lss t12 (.int .i64 0) (fun t80 _ =>
  gd t80 false (fun K w => K t12 w) (fun t82 _ =>
  gd t80 false (fd 1 t10) (fun t83 _ =>
  gd t80 false (ld1 t83) (fun t84 _ =>
  gd t80 false (cvi .i64 t84) (fun t85 _ =>
  gd t80 false (boI .rem t82 t85) (fun t86 _ =>
  gd t80 false (boI .neq t86 (.int .i64 0)) (fun t87 _ =>
  pk t80 (.bool true) t87 (fun t88 _ =>
  gd t88 false (fun K w => K t12 w) (fun t90 _ =>
  gd t88 false (fd 1 t10) (fun t91 _ =>
  gd t88 false (ld1 t91) (fun t92 _ =>
  gd t88 false (cvi .i64 t92) (fun t93 _ =>
  gd t88 false (boI .quo t90 t93) (fun t94 _ =>
  gd t88 false (fd 2 t10) (fun t95 _ =>
  gd t88 false (ld1 t95) (fun t96 _ =>
  gd t88 false (cvi .i64 t96) (fun t97 _ =>
  gd t88 false (boI .geq t94 t97) (fun t98 _ =>
  pk t88 (.bool true) t98 (fun t99 _ =>
  s10_p4 K B1 t3 t17 t18 t19 t99 w) w0) w0) w0) w0) w0) w0) w0) w0) w0) w0) w0) w0) w0) w0) w0) w0) w0) w0
def s10_p5 (K : Value → World → Prop) (B1 : List Value → World → Prop) (t3 t10 t12 t17 t18 t19 : Value) (w : World) : Prop := s10_p5_d K B1 t3 t10 t12 t17 t18 t19 (drw w) (drw w)
def s10_p5_den (K : Value → World → Prop) (M1 : (Nat → Value) → World → Prop) : (Nat → Value) → World → Prop := denL Tryd.prog [(cd (Tryd.f10.body.getD .skip) [1, 1, 1, 0, 1, 0, 0, 1, 1, 0, 0, 1, 1, 1, 1, 1, 1, 0, 1, 0, 1, 1, 0])] (s10_p4_den K M1) (fun i => (bif Nat.beq i 1 then (s10_p2_den K M1) else (bif Nat.beq i 0 then (s10_p1_den K) else (fun _ _ => False)))) (s10_R K)
theorem s10_p5_ok (K : Value → World → Prop) (B1 : List Value → World → Prop) (s : Nat → Value) (w : World) (h : s10_p5 K B1 (s 3) (s 10) (s 12) (s 17) (s 18) (s 19) w) : Tr (s10_p5_den K (fun s w => B1 [s 3, s 17, s 18, s 19] w) s w) :=
  tr_draw (P := Tryd.prog) (ops := (ro (cd (Tryd.f10.body.getD .skip) [1, 1, 1, 0, 1, 0, 0, 1, 1, 0, 0, 1, 1, 1, 1, 1, 1, 0, 1, 0, 1, 1, 0]))) (ms := [0, 1, 3, 7, 7, 23, 55, 127, 255, 511, 1023, 2047, 2047, 6143, 14335, 32767, 2047, 67583, 198655, 524287, 1048575]) (cs := [0, 1, 2, 3, 4, 5, 6, 7, 8, 9, 10, 11, 12, 13, 14, 15, 16, 17, 18, 19, 20]) (N := (fun s w => s10_p4 K B1 (s 3) (s 17) (s 18) (s 19) (s 99) w)) (N' := (s10_p4_den K (fun s w => B1 [s 3, s 17, s 18, s 19] w))) (s := s) (w := w) (p := s10_p5 K B1 (s 3) (s 10) (s 12) (s 17) (s 18) (s 19) w) (q := s10_p5_den K (fun s w => B1 [s 3, s 17, s 18, s 19] w) s w) (by kernel_rfl) (by kernel_rfl) (fun s w h => s10_p4_ok K B1 s w @h) (by kernel_rfl) (by kernel_rfl) @h
def s10_p6 (K : Value → World → Prop) (B1 : List Value → World → Prop) (t3 t6 t7 t10 t17 t18 t19 : Value) (w : World) : Prop :=
  fd 1 t6 (fun t74 w =>
  ld1 t74 (fun t75 w =>
  fd 2 t7 (fun t76 w =>
  ld1 t76 (fun t77 w =>
  cl Tryd.prog 19 #[t3, t75, t77] (fun t78 w =>
  s10_p5 K B1 t3 t10 t78 t17 t18 t19 w) w) w) w) w) w
def s10_p6_den (K : Value → World → Prop) (M1 : (Nat → Value) → World → Prop) : (Nat → Value) → World → Prop := denL Tryd.prog [(cd (Tryd.f10.body.getD .skip) [1, 1, 1, 0, 1, 0, 0, 1, 1, 0, 0, 1, 1, 1, 1, 1, 1, 0, 1, 0, 1, 0])] (s10_p5_den K M1) (fun i => (bif Nat.beq i 1 then (s10_p2_den K M1) else (bif Nat.beq i 0 then (s10_p1_den K) else (fun _ _ => False)))) (s10_R K)
theorem s10_p6_ok (K : Value → World → Prop) (B1 : List Value → World → Prop) (s : Nat → Value) (w : World) (h : s10_p6 K B1 (s 3) (s 6) (s 7) (s 10) (s 17) (s 18) (s 19) w) : Tr (s10_p6_den K (fun s w => B1 [s 3, s 17, s 18, s 19] w) s w) :=
  tr_simple (P := Tryd.prog) (codes := [(cd (Tryd.f10.body.getD .skip) [1, 1, 1, 0, 1, 0, 0, 1, 1, 0, 0, 1, 1, 1, 1, 1, 1, 0, 1, 0, 1, 0])]) (N := (fun s w => s10_p5 K B1 (s 3) (s 10) (s 12) (s 17) (s 18) (s 19) w)) (N' := (s10_p5_den K (fun s w => B1 [s 3, s 17, s 18, s 19] w))) (X := (fun i => (bif Nat.beq i 1 then (fun s w => s10_p2 K B1 (s 3) (s 17) (s 18) (s 19) w) else (bif Nat.beq i 0 then (fun s w => s10_p1 K w) else (fun _ _ => False))))) (X' := (fun i => (bif Nat.beq i 1 then (s10_p2_den K (fun s w => B1 [s 3, s 17, s 18, s 19] w)) else (bif Nat.beq i 0 then (s10_p1_den K) else (fun _ _ => False))))) (R := s10_R K) (s := s) (w := w) (p := s10_p6 K B1 (s 3) (s 6) (s 7) (s 10) (s 17) (s 18) (s 19) w) (q := s10_p6_den K (fun s w => B1 [s 3, s 17, s 18, s 19] w) s w) (fun s w h => s10_p5_ok K B1 s w @h) (fun i => (tr_bif (fun s w h => s10_p2_ok K B1 s w @h) (tr_bif (fun s w h => s10_p1_ok K s w @h) tr_id))) (by kernel_rfl) (by kernel_rfl) @h
def s10_p7_d (K : Value → World → Prop) (B1 : List Value → World → Prop) (J : World → Prop) (t3 t6 t7 t17 t18 t19 : Value) (w0 w : World) : Prop :=
  nck t3 (fun t65 _ =>
  fd 1 t65 (fun t66 _ =>
  Go.Sh.R.qw J (ld1 t66) (fun t67 =>
  fd 1 t6 (fun t68 _ =>
  Go.Sh.R.qw J (ld1 t68) (fun t69 =>
  (cl Tryd.prog 22 #[t67, t69] (fun t70 w =>
  ((exq t70 0 (fun t71 w =>
  (exq t70 1 (fun t72 w =>
  nw 68 #[(.int .u32 0), (.int .u32 0), (.int .u32 0)] (fun t10 w =>
  J w ∧
  stn 3 t10 t71 (fun w =>
  s10_p6 K B1 t3 t6 t7 t10 t17 t18 t19 w) w) w) w) ∧
  (nw 68 #[(.int .u32 0), (.int .u32 0), (.int .u32 0)] (fun t10_2 w =>
  J w ∧
  (exq t70 1 (fun t72_2 w =>
  stn 3 t10_2 t71 (fun w =>
  s10_p6 K B1 t3 t6 t7 t10_2 t17 t18 t19 w) w) w) ∧
  (stn 3 t10_2 t71 (fun w =>
  exq t70 1 (fun t72_3 w =>
  s10_p6 K B1 t3 t6 t7 t10_2 t17 t18 t19 w) w) w)) w)) w) ∧
  (exq t70 1 (fun t72_4 w =>
  (exq t70 0 (fun t71_2 w =>
  nw 68 #[(.int .u32 0), (.int .u32 0), (.int .u32 0)] (fun t10_3 w =>
  J w ∧
  stn 3 t10_3 t71_2 (fun w =>
  s10_p6 K B1 t3 t6 t7 t10_3 t17 t18 t19 w) w) w) w) ∧
  (nw 68 #[(.int .u32 0), (.int .u32 0), (.int .u32 0)] (fun t10_4 w =>
  J w ∧
  exq t70 0 (fun t71_3 w =>
  stn 3 t10_4 t71_3 (fun w =>
  s10_p6 K B1 t3 t6 t7 t10_4 t17 t18 t19 w) w) w) w)) w) ∧
  (nw 68 #[(.int .u32 0), (.int .u32 0), (.int .u32 0)] (fun t10_5 w =>
  J w ∧
  (exq t70 0 (fun t71_4 w =>
  (exq t70 1 (fun t72_5 w =>
  stn 3 t10_5 t71_4 (fun w =>
  s10_p6 K B1 t3 t6 t7 t10_5 t17 t18 t19 w) w) w) ∧
  (stn 3 t10_5 t71_4 (fun w =>
  exq t70 1 (fun t72_6 w =>
  s10_p6 K B1 t3 t6 t7 t10_5 t17 t18 t19 w) w) w)) w) ∧
  (exq t70 1 (fun t72_7 w =>
  exq t70 0 (fun t71_5 w =>
  stn 3 t10_5 t71_5 (fun w =>
  s10_p6 K B1 t3 t6 t7 t10_5 t17 t18 t19 w) w) w) w)) w)) ∧
  (nw 68 #[(.int .u32 0), (.int .u32 0), (.int .u32 0)] (fun t10_6 w =>
  J w ∧
  (exq t70 0 (fun t71_6 w =>
  (exq t70 1 (fun t72_8 w =>
  stn 3 t10_6 t71_6 (fun w =>
  s10_p6 K B1 t3 t6 t7 t10_6 t17 t18 t19 w) w) w) ∧
  (stn 3 t10_6 t71_6 (fun w =>
  exq t70 1 (fun t72_9 w =>
  s10_p6 K B1 t3 t6 t7 t10_6 t17 t18 t19 w) w) w)) w) ∧
  (exq t70 1 (fun t72_10 w =>
  exq t70 0 (fun t71_7 w =>
  stn 3 t10_6 t71_7 (fun w =>
  s10_p6 K B1 t3 t6 t7 t10_6 t17 t18 t19 w) w) w) w)) w)) w) ∧
  (nw 68 #[(.int .u32 0), (.int .u32 0), (.int .u32 0)] (fun t10_7 w =>
  J w ∧
  cl Tryd.prog 22 #[t67, t69] (fun t70_2 w =>
  (exq t70_2 0 (fun t71_8 w =>
  (exq t70_2 1 (fun t72_11 w =>
  stn 3 t10_7 t71_8 (fun w =>
  s10_p6 K B1 t3 t6 t7 t10_7 t17 t18 t19 w) w) w) ∧
  (stn 3 t10_7 t71_8 (fun w =>
  exq t70_2 1 (fun t72_12 w =>
  s10_p6 K B1 t3 t6 t7 t10_7 t17 t18 t19 w) w) w)) w) ∧
  (exq t70_2 1 (fun t72_13 w =>
  exq t70_2 0 (fun t71_9 w =>
  stn 3 t10_7 t71_9 (fun w =>
  s10_p6 K B1 t3 t6 t7 t10_7 t17 t18 t19 w) w) w) w)) w) w))) w0)) w0) w0
def s10_p7 (K : Value → World → Prop) (B1 : List Value → World → Prop) (t3 t6 t7 t17 t18 t19 : Value) (w : World) : Prop := ∃ J : World → Prop, J (drw w) ∧ s10_p7_d K B1 J t3 t6 t7 t17 t18 t19 (drw w) (drw w)
def s10_p7_den (K : Value → World → Prop) (M1 : (Nat → Value) → World → Prop) : (Nat → Value) → World → Prop := denL Tryd.prog [(cd (Tryd.f10.body.getD .skip) [1, 1, 1, 0, 1, 0, 0, 1, 1, 0, 0, 1, 1, 1, 1, 1, 1, 0, 1, 0, 0])] (s10_p6_den K M1) (fun i => (bif Nat.beq i 1 then (s10_p2_den K M1) else (bif Nat.beq i 0 then (s10_p1_den K) else (fun _ _ => False)))) (s10_R K)
theorem s10_p7_ok (K : Value → World → Prop) (B1 : List Value → World → Prop) (s : Nat → Value) (w : World) (h : s10_p7 K B1 (s 3) (s 6) (s 7) (s 17) (s 18) (s 19) w) : Tr (s10_p7_den K (fun s w => B1 [s 3, s 17, s 18, s 19] w) s w) :=
  Go.Sh.R.tr_drawR (P := Tryd.prog) (ops := (ro (cd (Tryd.f10.body.getD .skip) [1, 1, 1, 0, 1, 0, 0, 1, 1, 0, 0, 1, 1, 1, 1, 1, 1, 0, 1, 0, 0]))) (ms := [0, 1, 3, 7, 0, 16, 63, 127, 255, 255, 0, 1535, 4095]) (cs := [0, 1, 2, 3, 4, 5]) (N := (fun s w => s10_p6 K B1 (s 3) (s 6) (s 7) (s 10) (s 17) (s 18) (s 19) w)) (N' := (s10_p6_den K (fun s w => B1 [s 3, s 17, s 18, s 19] w))) (s := s) (w := w) (p := fun J => s10_p7_d K B1 J (s 3) (s 6) (s 7) (s 17) (s 18) (s 19) (drw w) (drw w)) (q := s10_p7_den K (fun s w => B1 [s 3, s 17, s 18, s 19] w) s w) (by kernel_rfl) (by kernel_rfl) (fun s w h => s10_p6_ok K B1 s w @h) (by kernel_rfl) (by kernel_rfl) @h
def s10_p8 (K : Value → World → Prop) (B1 : List Value → World → Prop) (t3 t6 t7 t17 t18 t19 t62 : Value) (w : World) : Prop :=
  ifb t62
  (s10_p7 K B1 t3 t6 t7 t17 t18 t19 w)
  (s10_p3 K B1 t3 t17 t18 t19 w)
def s10_p8_den (K : Value → World → Prop) (M1 : (Nat → Value) → World → Prop) : (Nat → Value) → World → Prop := fun s w => ifb (ev s (.tmp 62)) ((s10_p7_den K M1) s w) ((s10_p3_den K M1) s w)
theorem s10_p8_ok (K : Value → World → Prop) (B1 : List Value → World → Prop) (s : Nat → Value) (w : World) (h : s10_p8 K B1 (s 3) (s 6) (s 7) (s 17) (s 18) (s 19) (s 62) w) : Tr (s10_p8_den K (fun s w => B1 [s 3, s 17, s 18, s 19] w) s w) :=
  tr_cond (v := ev s (.tmp 62)) (a := (fun s w => s10_p7 K B1 (s 3) (s 6) (s 7) (s 17) (s 18) (s 19) w) s w) (a' := (s10_p7_den K (fun s w => B1 [s 3, s 17, s 18, s 19] w)) s w) (b := (fun s w => s10_p3 K B1 (s 3) (s 17) (s 18) (s 19) w) s w) (b' := (s10_p3_den K (fun s w => B1 [s 3, s 17, s 18, s 19] w)) s w) (p := s10_p8 K B1 (s 3) (s 6) (s 7) (s 17) (s 18) (s 19) (s 62) w) (q := s10_p8_den K (fun s w => B1 [s 3, s 17, s 18, s 19] w) s w) ((fun s w h => s10_p7_ok K B1 s w @h) s w) ((fun s w h => s10_p3_ok K B1 s w @h) s w) (by kernel_rfl) (by kernel_rfl) @h
def s10_p9 (K : Value → World → Prop) (B1 : List Value → World → Prop) (t3 t6 t7 t17 t18 t19 : Value) (w : World) : Prop :=
  fd 0 t6 (fun t55 w =>
  ld1 t55 (fun t56 w =>
  boI .eql t56 (.int .u8 2) (fun t57 w =>
  gd t57 true (fd 0 t7) (fun t59 w =>
  gd t57 true (ld1 t59) (fun t60 w =>
  gd t57 true (boI .eql t60 (.int .i64 0)) (fun t61 w =>
  pk t57 t61 (.bool false) (fun t62 w =>
  s10_p8 K B1 t3 t6 t7 t17 t18 t19 t62 w) w) w) w) w) w) w) w
def s10_p9_den (K : Value → World → Prop) (M1 : (Nat → Value) → World → Prop) : (Nat → Value) → World → Prop := denL Tryd.prog [(cd (Tryd.f10.body.getD .skip) [1, 1, 1, 0, 1, 0, 0, 1, 1, 0, 0, 1, 1, 1, 1, 1, 1, 0, 0])] (s10_p8_den K M1) (fun i => (bif Nat.beq i 1 then (s10_p2_den K M1) else (bif Nat.beq i 0 then (s10_p1_den K) else (fun _ _ => False)))) (s10_R K)
theorem s10_p9_ok (K : Value → World → Prop) (B1 : List Value → World → Prop) (s : Nat → Value) (w : World) (h : s10_p9 K B1 (s 3) (s 6) (s 7) (s 17) (s 18) (s 19) w) : Tr (s10_p9_den K (fun s w => B1 [s 3, s 17, s 18, s 19] w) s w) :=
  tr_simple (P := Tryd.prog) (codes := [(cd (Tryd.f10.body.getD .skip) [1, 1, 1, 0, 1, 0, 0, 1, 1, 0, 0, 1, 1, 1, 1, 1, 1, 0, 0])]) (N := (fun s w => s10_p8 K B1 (s 3) (s 6) (s 7) (s 17) (s 18) (s 19) (s 62) w)) (N' := (s10_p8_den K (fun s w => B1 [s 3, s 17, s 18, s 19] w))) (X := (fun i => (bif Nat.beq i 1 then (fun s w => s10_p2 K B1 (s 3) (s 17) (s 18) (s 19) w) else (bif Nat.beq i 0 then (fun s w => s10_p1 K w) else (fun _ _ => False))))) (X' := (fun i => (bif Nat.beq i 1 then (s10_p2_den K (fun s w => B1 [s 3, s 17, s 18, s 19] w)) else (bif Nat.beq i 0 then (s10_p1_den K) else (fun _ _ => False))))) (R := s10_R K) (s := s) (w := w) (p := s10_p9 K B1 (s 3) (s 6) (s 7) (s 17) (s 18) (s 19) w) (q := s10_p9_den K (fun s w => B1 [s 3, s 17, s 18, s 19] w) s w) (fun s w h => s10_p8_ok K B1 s w @h) (fun i => (tr_bif (fun s w h => s10_p2_ok K B1 s w @h) (tr_bif (fun s w h => s10_p1_ok K s w @h) tr_id))) (by kernel_rfl) (by kernel_rfl) @h
def s10_p10 (K : Value → World → Prop) (B1 : List Value → World → Prop) (B2 : List Value → World → Prop) (t3 t6 t7 t17 t18 t19 t44 t45 t46 : Value) (w : World) : Prop :=
  boI .lss t46 t45 (fun t47 w =>
  ifb t47
  (ixs 1 t44 t46 (fun t48 w =>
  ld1 t48 (fun t49 w =>
  cl Tryd.prog 21 #[t3, t49] (fun t52 w =>
  un .not t52 (fun t53 w =>
  ifb t53
  (K (.bool false) w)
  (boI .add t46 (.int .i64 1) (fun t54 w =>
  B2 [t3, t6, t7, t17, t18, t19, t44, t45, t54] w) w)) w) w) w) w)
  (s10_p9 K B1 t3 t6 t7 t17 t18 t19 w)) w
def s10_p10_den (K : Value → World → Prop) (M1 : (Nat → Value) → World → Prop) (M2 : (Nat → Value) → World → Prop) : (Nat → Value) → World → Prop := denL Tryd.prog [(cd (Tryd.f10.body.getD .skip) [1, 1, 1, 0, 1, 0, 0, 1, 1, 0, 0, 1, 1, 1, 1, 1, 0, 1, 0, 0, 0]), (cd (Tryd.f10.body.getD .skip) [1, 1, 1, 0, 1, 0, 0, 1, 1, 0, 0, 1, 1, 1, 1, 1, 0, 1, 0, 0, 1, 0]), (cd (Tryd.f10.body.getD .skip) [1, 1, 1, 0, 1, 0, 0, 1, 1, 0, 0, 1, 1, 1, 1, 1, 0, 1, 0, 0, 1, 1, 0]), (cd (Tryd.f10.body.getD .skip) [1, 1, 1, 0, 1, 0, 0, 1, 1, 0, 0, 1, 1, 1, 1, 1, 0, 1, 0, 0, 1, 1, 1])] M2 (fun i => (bif Nat.beq i 2 then (s10_p9_den K M1) else (bif Nat.beq i 1 then (s10_p2_den K M1) else (bif Nat.beq i 0 then (s10_p1_den K) else (fun _ _ => False))))) (s10_R K)
theorem s10_p10_ok (K : Value → World → Prop) (B1 : List Value → World → Prop) (B2 : List Value → World → Prop) (s : Nat → Value) (w : World) (h : s10_p10 K B1 B2 (s 3) (s 6) (s 7) (s 17) (s 18) (s 19) (s 44) (s 45) (s 46) w) : Tr (s10_p10_den K (fun s w => B1 [s 3, s 17, s 18, s 19] w) (fun s w => B2 [s 3, s 6, s 7, s 17, s 18, s 19, s 44, s 45, s 46] w) s w) :=
  tr_simple (P := Tryd.prog) (codes := [(cd (Tryd.f10.body.getD .skip) [1, 1, 1, 0, 1, 0, 0, 1, 1, 0, 0, 1, 1, 1, 1, 1, 0, 1, 0, 0, 0]), (cd (Tryd.f10.body.getD .skip) [1, 1, 1, 0, 1, 0, 0, 1, 1, 0, 0, 1, 1, 1, 1, 1, 0, 1, 0, 0, 1, 0]), (cd (Tryd.f10.body.getD .skip) [1, 1, 1, 0, 1, 0, 0, 1, 1, 0, 0, 1, 1, 1, 1, 1, 0, 1, 0, 0, 1, 1, 0]), (cd (Tryd.f10.body.getD .skip) [1, 1, 1, 0, 1, 0, 0, 1, 1, 0, 0, 1, 1, 1, 1, 1, 0, 1, 0, 0, 1, 1, 1])]) (N := (fun s w => B2 [s 3, s 6, s 7, s 17, s 18, s 19, s 44, s 45, s 46] w)) (N' := (fun s w => B2 [s 3, s 6, s 7, s 17, s 18, s 19, s 44, s 45, s 46] w)) (X := (fun i => (bif Nat.beq i 2 then (fun s w => s10_p9 K B1 (s 3) (s 6) (s 7) (s 17) (s 18) (s 19) w) else (bif Nat.beq i 1 then (fun s w => s10_p2 K B1 (s 3) (s 17) (s 18) (s 19) w) else (bif Nat.beq i 0 then (fun s w => s10_p1 K w) else (fun _ _ => False)))))) (X' := (fun i => (bif Nat.beq i 2 then (s10_p9_den K (fun s w => B1 [s 3, s 17, s 18, s 19] w)) else (bif Nat.beq i 1 then (s10_p2_den K (fun s w => B1 [s 3, s 17, s 18, s 19] w)) else (bif Nat.beq i 0 then (s10_p1_den K) else (fun _ _ => False)))))) (R := s10_R K) (s := s) (w := w) (p := s10_p10 K B1 B2 (s 3) (s 6) (s 7) (s 17) (s 18) (s 19) (s 44) (s 45) (s 46) w) (q := s10_p10_den K (fun s w => B1 [s 3, s 17, s 18, s 19] w) (fun s w => B2 [s 3, s 6, s 7, s 17, s 18, s 19, s 44, s 45, s 46] w) s w) tr_id (fun i => (tr_bif (fun s w h => s10_p9_ok K B1 s w @h) (tr_bif (fun s w h => s10_p2_ok K B1 s w @h) (tr_bif (fun s w h => s10_p1_ok K s w @h) tr_id)))) (by kernel_rfl) (by kernel_rfl) @h
def s10_p11_F (K : Value → World → Prop) (B1 : List Value → World → Prop) (B2 : List Value → World → Prop) (l : List Value) (w : World) : Prop :=
  match l with
  | [t3, t6, t7, t17, t18, t19, t44, t45, t46] => s10_p10 K B1 B2 t3 t6 t7 t17 t18 t19 t44 t45 t46 w
  | _ => False
theorem s10_p11_Fe {K : Value → World → Prop} {B1 : List Value → World → Prop} {B2 : List Value → World → Prop} {t3 t6 t7 t17 t18 t19 t44 t45 t46 : Value} {w : World} : s10_p11_F K B1 B2 [t3, t6, t7, t17, t18, t19, t44, t45, t46] w = s10_p10 K B1 B2 t3 t6 t7 t17 t18 t19 t44 t45 t46 w := by kernel_rfl
def s10_p11 (K : Value → World → Prop) (B1 : List Value → World → Prop) (t3 t6 t7 t17 t18 t19 t44 t45 t46 : Value) (w : World) : Prop :=
  LoopL (s10_p11_F K B1) [t3, t6, t7, t17, t18, t19, t44, t45, t46] w
def s10_p11_den (K : Value → World → Prop) (M1 : (Nat → Value) → World → Prop) : (Nat → Value) → World → Prop := fun s w => LoopP (fun M2 s w => s10_p10_den K M1 M2 s w) s w
theorem s10_p11_ok (K : Value → World → Prop) (B1 : List Value → World → Prop) (s : Nat → Value) (w : World) (h : s10_p11 K B1 (s 3) (s 6) (s 7) (s 17) (s 18) (s 19) (s 44) (s 45) (s 46) w) : Tr (s10_p11_den K (fun s w => B1 [s 3, s 17, s 18, s 19] w) s w) :=
  tr_loop (G := fun N' s w => s10_p10_den K (fun s w => B1 [s 3, s 17, s 18, s 19] w) N' s w) (F := s10_p11_F K B1) (sel := fun s => [s 3, s 6, s 7, s 17, s 18, s 19, s 44, s 45, s 46]) (s := s) (w := w) (p := s10_p11 K B1 (s 3) (s 6) (s 7) (s 17) (s 18) (s 19) (s 44) (s 45) (s 46) w) (q := s10_p11_den K (fun s w => B1 [s 3, s 17, s 18, s 19] w) s w) (fun B s w h => s10_p10_ok K B1 B s w @h) (by kernel_rfl) (by kernel_rfl) @h
def s10_p12 (K : Value → World → Prop) (B1 : List Value → World → Prop) (t3 t17 t18 t19 : Value) (w : World) : Prop :=
  ixs 4 t17 t19 (fun t21 w =>
  ldn 4 t21 (fun t22 w =>
  nw 28 #[(.int .u8 0), (.int .i64 0), (.int .i64 0), (.int .i64 0)] (fun t5 w =>
  stn 4 t5 t22 (fun w =>
  ldn 4 t5 (fun t24 w =>
  cl Tryd.prog 13 #[t3, t24] (fun t25 w =>
  nw 33 #[(.int .u8 0), (.int .i64 0), (.int .u32 0), (.int .i64 0), (.int .i64 0), (.int .i64 0)] (fun t6 w =>
  stn 6 t6 t25 (fun w =>
  ldn 6 t6 (fun t27 w =>
  cl Tryd.prog 14 #[t3, t27] (fun t28 w =>
  nw 41 #[(.int .i64 0), (.int .i64 0), (.int .u32 0), (.int .u32 0), (.int .u32 0), (.int .u32 0), (.int .u64 0), (.int .u64 0), (.slice none 0 0)] (fun t7 w =>
  stn 9 t7 t28 (fun w =>
  fd 0 t6 (fun t29 w =>
  ld1 t29 (fun t30 w =>
  boI .eql t30 (.int .u8 8) (fun t31 w =>
  gd t31 false (fd 0 t6) (fun t33 w =>
  gd t31 false (ld1 t33) (fun t34 w =>
  gd t31 false (boI .eql t34 (.int .u8 7)) (fun t35 w =>
  pk t31 (.bool true) t35 (fun t36 w =>
  ifb t36
  (s10_p2 K B1 t3 t17 t18 t19 w)
  (fd 0 t6 (fun t37 w =>
  ld1 t37 (fun t38 w =>
  fd 7 t7 (fun t39 w =>
  ld1 t39 (fun t40 w =>
  cl Tryd.prog 20 #[t38, t40] (fun t41 w =>
  un .not t41 (fun t42 w =>
  ifb t42
  (K (.bool false) w)
  (fd 8 t7 (fun t43 w =>
  ld1 t43 (fun t44 w =>
  lnS t44 (fun t45 w =>
  s10_p11 K B1 t3 t6 t7 t17 t18 t19 t44 t45 (.int .i64 0) w) w) w) w)) w) w) w) w) w) w)) w) w) w) w) w) w) w) w) w) w) w) w) w) w) w) w) w) w) w
def s10_p12_den (K : Value → World → Prop) (M1 : (Nat → Value) → World → Prop) : (Nat → Value) → World → Prop := denL Tryd.prog [(cd (Tryd.f10.body.getD .skip) [1, 1, 1, 0, 1, 0, 0, 1, 1, 0, 0, 0]), (cd (Tryd.f10.body.getD .skip) [1, 1, 1, 0, 1, 0, 0, 1, 1, 0, 0, 1, 0]), (cd (Tryd.f10.body.getD .skip) [1, 1, 1, 0, 1, 0, 0, 1, 1, 0, 0, 1, 1, 0]), (cd (Tryd.f10.body.getD .skip) [1, 1, 1, 0, 1, 0, 0, 1, 1, 0, 0, 1, 1, 1, 0, 0]), (cd (Tryd.f10.body.getD .skip) [1, 1, 1, 0, 1, 0, 0, 1, 1, 0, 0, 1, 1, 1, 0, 1]), (cd (Tryd.f10.body.getD .skip) [1, 1, 1, 0, 1, 0, 0, 1, 1, 0, 0, 1, 1, 1, 1, 0, 0]), (cd (Tryd.f10.body.getD .skip) [1, 1, 1, 0, 1, 0, 0, 1, 1, 0, 0, 1, 1, 1, 1, 0, 1]), (cd (Tryd.f10.body.getD .skip) [1, 1, 1, 0, 1, 0, 0, 1, 1, 0, 0, 1, 1, 1, 1, 1, 0, 0])] (s10_p11_den K M1) (fun i => (bif Nat.beq i 1 then (s10_p2_den K M1) else (bif Nat.beq i 0 then (s10_p1_den K) else (fun _ _ => False)))) (s10_R K)
theorem s10_p12_ok (K : Value → World → Prop) (B1 : List Value → World → Prop) (s : Nat → Value) (w : World) (h : s10_p12 K B1 (s 3) (s 17) (s 18) (s 19) w) : Tr (s10_p12_den K (fun s w => B1 [s 3, s 17, s 18, s 19] w) s w) :=
  tr_simple (P := Tryd.prog) (codes := [(cd (Tryd.f10.body.getD .skip) [1, 1, 1, 0, 1, 0, 0, 1, 1, 0, 0, 0]), (cd (Tryd.f10.body.getD .skip) [1, 1, 1, 0, 1, 0, 0, 1, 1, 0, 0, 1, 0]), (cd (Tryd.f10.body.getD .skip) [1, 1, 1, 0, 1, 0, 0, 1, 1, 0, 0, 1, 1, 0]), (cd (Tryd.f10.body.getD .skip) [1, 1, 1, 0, 1, 0, 0, 1, 1, 0, 0, 1, 1, 1, 0, 0]), (cd (Tryd.f10.body.getD .skip) [1, 1, 1, 0, 1, 0, 0, 1, 1, 0, 0, 1, 1, 1, 0, 1]), (cd (Tryd.f10.body.getD .skip) [1, 1, 1, 0, 1, 0, 0, 1, 1, 0, 0, 1, 1, 1, 1, 0, 0]), (cd (Tryd.f10.body.getD .skip) [1, 1, 1, 0, 1, 0, 0, 1, 1, 0, 0, 1, 1, 1, 1, 0, 1]), (cd (Tryd.f10.body.getD .skip) [1, 1, 1, 0, 1, 0, 0, 1, 1, 0, 0, 1, 1, 1, 1, 1, 0, 0])]) (N := (fun s w => s10_p11 K B1 (s 3) (s 6) (s 7) (s 17) (s 18) (s 19) (s 44) (s 45) (s 46) w)) (N' := (s10_p11_den K (fun s w => B1 [s 3, s 17, s 18, s 19] w))) (X := (fun i => (bif Nat.beq i 1 then (fun s w => s10_p2 K B1 (s 3) (s 17) (s 18) (s 19) w) else (bif Nat.beq i 0 then (fun s w => s10_p1 K w) else (fun _ _ => False))))) (X' := (fun i => (bif Nat.beq i 1 then (s10_p2_den K (fun s w => B1 [s 3, s 17, s 18, s 19] w)) else (bif Nat.beq i 0 then (s10_p1_den K) else (fun _ _ => False))))) (R := s10_R K) (s := s) (w := w) (p := s10_p12 K B1 (s 3) (s 17) (s 18) (s 19) w) (q := s10_p12_den K (fun s w => B1 [s 3, s 17, s 18, s 19] w) s w) (fun s w h => s10_p11_ok K B1 s w @h) (fun i => (tr_bif (fun s w h => s10_p2_ok K B1 s w @h) (tr_bif (fun s w h => s10_p1_ok K s w @h) tr_id))) (by kernel_rfl) (by kernel_rfl) @h
def s10_p13 (K : Value → World → Prop) (B1 : List Value → World → Prop) (t3 t17 t18 t19 : Value) (w : World) : Prop :=
  boI .lss t19 t18 (fun t20 w =>
  ifb t20
  (s10_p12 K B1 t3 t17 t18 t19 w)
  (s10_p1 K w)) w
def s10_p13_den (K : Value → World → Prop) (M1 : (Nat → Value) → World → Prop) : (Nat → Value) → World → Prop := denL Tryd.prog [(cd (Tryd.f10.body.getD .skip) [1, 1, 1, 0, 1, 0, 0, 0]), (cd (Tryd.f10.body.getD .skip) [1, 1, 1, 0, 1, 0, 0, 1, 0])] (s10_p12_den K M1) (fun i => (bif Nat.beq i 0 then (s10_p1_den K) else (fun _ _ => False))) (s10_R K)
theorem s10_p13_ok (K : Value → World → Prop) (B1 : List Value → World → Prop) (s : Nat → Value) (w : World) (h : s10_p13 K B1 (s 3) (s 17) (s 18) (s 19) w) : Tr (s10_p13_den K (fun s w => B1 [s 3, s 17, s 18, s 19] w) s w) :=
  tr_simple (P := Tryd.prog) (codes := [(cd (Tryd.f10.body.getD .skip) [1, 1, 1, 0, 1, 0, 0, 0]), (cd (Tryd.f10.body.getD .skip) [1, 1, 1, 0, 1, 0, 0, 1, 0])]) (N := (fun s w => s10_p12 K B1 (s 3) (s 17) (s 18) (s 19) w)) (N' := (s10_p12_den K (fun s w => B1 [s 3, s 17, s 18, s 19] w))) (X := (fun i => (bif Nat.beq i 0 then (fun s w => s10_p1 K w) else (fun _ _ => False)))) (X' := (fun i => (bif Nat.beq i 0 then (s10_p1_den K) else (fun _ _ => False)))) (R := s10_R K) (s := s) (w := w) (p := s10_p13 K B1 (s 3) (s 17) (s 18) (s 19) w) (q := s10_p13_den K (fun s w => B1 [s 3, s 17, s 18, s 19] w) s w) (fun s w h => s10_p12_ok K B1 s w @h) (fun i => (tr_bif (fun s w h => s10_p1_ok K s w @h) tr_id)) (by kernel_rfl) (by kernel_rfl) @h
def s10_p14_F (K : Value → World → Prop) (B1 : List Value → World → Prop) (l : List Value) (w : World) : Prop :=
  match l with
  | [t3, t17, t18, t19] => s10_p13 K B1 t3 t17 t18 t19 w
  | _ => False
theorem s10_p14_Fe {K : Value → World → Prop} {B1 : List Value → World → Prop} {t3 t17 t18 t19 : Value} {w : World} : s10_p14_F K B1 [t3, t17, t18, t19] w = s10_p13 K B1 t3 t17 t18 t19 w := by kernel_rfl
def s10_p14 (K : Value → World → Prop) (t3 t17 t18 t19 : Value) (w : World) : Prop :=
  LoopL (s10_p14_F K) [t3, t17, t18, t19] w
def s10_p14_den (K : Value → World → Prop) : (Nat → Value) → World → Prop := fun s w => LoopP (fun M1 s w => s10_p13_den K M1 s w) s w
theorem s10_p14_ok (K : Value → World → Prop) (s : Nat → Value) (w : World) (h : s10_p14 K (s 3) (s 17) (s 18) (s 19) w) : Tr (s10_p14_den K s w) :=
  tr_loop (G := fun N' s w => s10_p13_den K N' s w) (F := s10_p14_F K) (sel := fun s => [s 3, s 17, s 18, s 19]) (s := s) (w := w) (p := s10_p14 K (s 3) (s 17) (s 18) (s 19) w) (q := s10_p14_den K s w) (fun B s w h => s10_p13_ok K B s w @h) (by kernel_rfl) (by kernel_rfl) @h
def s10_p15 (K : Value → World → Prop) (t0 : Value) (w : World) : Prop :=
  cl Tryd.prog 11 #[t0] (fun t14 w =>
  un .not t14 (fun t15 w =>
  ifb t15
  (K (.bool true) w)
  (cl Tryd.prog 12 #[] (fun t16 w =>
  lnS t0 (fun t18 w =>
  s10_p14 K t16 t0 t18 (.int .i64 0) w) w) w)) w) w
def s10_p15_den (K : Value → World → Prop) : (Nat → Value) → World → Prop := denL Tryd.prog [(cd (Tryd.f10.body.getD .skip) [0]), (cd (Tryd.f10.body.getD .skip) [1, 0, 0]), (cd (Tryd.f10.body.getD .skip) [1, 0, 1]), (cd (Tryd.f10.body.getD .skip) [1, 1, 0]), (cd (Tryd.f10.body.getD .skip) [1, 1, 1, 0, 0])] (s10_p14_den K) (fun i => (fun _ _ => False)) (s10_R K)
theorem s10_p15_ok (K : Value → World → Prop) (s : Nat → Value) (w : World) (h : s10_p15 K (s 0) w) : Tr (s10_p15_den K s w) :=
  tr_simple (P := Tryd.prog) (codes := [(cd (Tryd.f10.body.getD .skip) [0]), (cd (Tryd.f10.body.getD .skip) [1, 0, 0]), (cd (Tryd.f10.body.getD .skip) [1, 0, 1]), (cd (Tryd.f10.body.getD .skip) [1, 1, 0]), (cd (Tryd.f10.body.getD .skip) [1, 1, 1, 0, 0])]) (N := (fun s w => s10_p14 K (s 3) (s 17) (s 18) (s 19) w)) (N' := (s10_p14_den K)) (X := (fun i => (fun _ _ => False))) (X' := (fun i => (fun _ _ => False))) (R := s10_R K) (s := s) (w := w) (p := s10_p15 K (s 0) w) (q := s10_p15_den K s w) (fun s w h => s10_p14_ok K s w @h) (fun i => tr_id) (by kernel_rfl) (by kernel_rfl) @h
/-- the call, from the text -/
theorem c10 (t0 : Value) {K : Value → World → Prop} {w : World} (h : s10_p15 K t0 w) : cl Tryd.prog 10 #[t0] K w :=
  calls_of_tr (c := (Tryd.f10.body.getD .skip)) (fn := Tryd.f10) (q := s10_p15_den K (st0 #[t0]) w) Tryd.func10 (by kernel_rfl) (by kernel_rfl) (Nat.le_of_ble_eq_true (by kernel_rfl)) (by kernel_rfl) (by kernel_rfl) (s10_p15_ok K (st0 #[t0]) w @h)

/-! ### function 11 : e2e.poollaw.zzSmall1 -/
def s11_R (K : Value → World → Prop) (s : Nat → Value) (w : World) : Prop := retv Tryd.prog s Tryd.f11.results.toList (fun vs => K (pack vs) w) w
def s11_p1 (K : Value → World → Prop) (t0 : Value) (w : World) : Prop :=
  lnS t0 (fun t5 w =>
  boI .gtr t5 (.int .i64 65536) (fun t7 w =>
  ifb t7
  (K (.bool false) w)
  (K (.bool true) w)) w) w
def s11_p1_den (K : Value → World → Prop) : (Nat → Value) → World → Prop := denL Tryd.prog [(cd (Tryd.f11.body.getD .skip) [0]), (cd (Tryd.f11.body.getD .skip) [1, 0]), (cd (Tryd.f11.body.getD .skip) [1, 1, 0, 0]), (cd (Tryd.f11.body.getD .skip) [1, 1, 0, 1]), (cd (Tryd.f11.body.getD .skip) [1, 1, 1, 0]), (cd (Tryd.f11.body.getD .skip) [1, 1, 1, 1])] (fun _ _ => False) (fun i => (fun _ _ => False)) (s11_R K)
theorem s11_p1_ok (K : Value → World → Prop) (s : Nat → Value) (w : World) (h : s11_p1 K (s 0) w) : Tr (s11_p1_den K s w) :=
  tr_simple (P := Tryd.prog) (codes := [(cd (Tryd.f11.body.getD .skip) [0]), (cd (Tryd.f11.body.getD .skip) [1, 0]), (cd (Tryd.f11.body.getD .skip) [1, 1, 0, 0]), (cd (Tryd.f11.body.getD .skip) [1, 1, 0, 1]), (cd (Tryd.f11.body.getD .skip) [1, 1, 1, 0]), (cd (Tryd.f11.body.getD .skip) [1, 1, 1, 1])]) (N := (fun _ _ => False)) (N' := (fun _ _ => False)) (X := (fun i => (fun _ _ => False))) (X' := (fun i => (fun _ _ => False))) (R := s11_R K) (s := s) (w := w) (p := s11_p1 K (s 0) w) (q := s11_p1_den K s w) tr_id (fun i => tr_id) (by kernel_rfl) (by kernel_rfl) @h
/-- the call, from the text -/
theorem c11 (t0 : Value) {K : Value → World → Prop} {w : World} (h : s11_p1 K t0 w) : cl Tryd.prog 11 #[t0] K w :=
  calls_of_tr (c := (Tryd.f11.body.getD .skip)) (fn := Tryd.f11) (q := s11_p1_den K (st0 #[t0]) w) Tryd.func11 (by kernel_rfl) (by kernel_rfl) (Nat.le_of_ble_eq_true (by kernel_rfl)) (by kernel_rfl) (by kernel_rfl) (s11_p1_ok K (st0 #[t0]) w @h)

/-! ### function 12 : e2e.poollaw.newWorld -/
def s12_R (K : Value → World → Prop) (s : Nat → Value) (w : World) : Prop := retv Tryd.prog s Tryd.f12.results.toList (fun vs => K (pack vs) w) w
def s12_p1 (K : Value → World → Prop) (t1 : Value) (w : World) : Prop :=
  fd 0 (.pointer (some ⟨0, 0, none⟩)) (fun t40 w =>
  ld1 t40 (fun t41 w =>
  cvi .i64 t41 (fun t42 w =>
  fd 1 (.pointer (some ⟨0, 0, none⟩)) (fun t43 w =>
  ld1 t43 (fun t44 w =>
  cvi .i64 t44 (fun t45 w =>
  cl Tryd.prog 30 #[(.int .i64 4096), t42, t45] (fun t46 w =>
  exq t46 0 (fun t47 w =>
  exq t46 1 (fun t48 w =>
  nck t1 (fun t49 w =>
  fd 2 t49 (fun t50 w =>
  st1 t50 t47 (fun w =>
  K t1 w) w) w) w) w) w) w) w) w) w) w) w) w
def s12_p1_den (K : Value → World → Prop) : (Nat → Value) → World → Prop := denL Tryd.prog [(cd (Tryd.f12.body.getD .skip) [1, 1, 1, 1, 1, 0]), (cd (Tryd.f12.body.getD .skip) [1, 1, 1, 1, 1, 1, 0]), (cd (Tryd.f12.body.getD .skip) [1, 1, 1, 1, 1, 1, 1])] (fun _ _ => False) (fun i => (fun _ _ => False)) (s12_R K)
theorem s12_p1_ok (K : Value → World → Prop) (s : Nat → Value) (w : World) (h : s12_p1 K (s 1) w) : Tr (s12_p1_den K s w) :=
  tr_simple (P := Tryd.prog) (codes := [(cd (Tryd.f12.body.getD .skip) [1, 1, 1, 1, 1, 0]), (cd (Tryd.f12.body.getD .skip) [1, 1, 1, 1, 1, 1, 0]), (cd (Tryd.f12.body.getD .skip) [1, 1, 1, 1, 1, 1, 1])]) (N := (fun _ _ => False)) (N' := (fun _ _ => False)) (X := (fun i => (fun _ _ => False))) (X' := (fun i => (fun _ _ => False))) (R := s12_R K) (s := s) (w := w) (p := s12_p1 K (s 1) w) (q := s12_p1_den K s w) tr_id (fun i => tr_id) (by kernel_rfl) (by kernel_rfl) @h
def s12_p2_d (K : Value → World → Prop) (t1 : Value) (w0 w : World) : Prop :=
  nck t1 (fun t29 _ =>
  fd 0 t29 (fun t30 _ =>
  ld1 t30 (fun t31 _ =>
  ldn 2 (.pointer (some ⟨0, 0, none⟩)) (fun t32 _ =>
  nck t1 (fun t36 _ =>
  fd 1 t36 (fun t37 _ =>
  cl Tryd.prog 29 #[t31, t32] (fun t33 w =>
  (exq t33 0 (fun t34 w =>
  (exq t33 1 (fun t35 w =>
  st1 t37 t34 (fun w =>
  s12_p1 K t1 w) w) w) ∧
  (st1 t37 t34 (fun w =>
  exq t33 1 (fun t35_2 w =>
  s12_p1 K t1 w) w) w)) w) ∧
  (exq t33 1 (fun t35_3 w =>
  exq t33 0 (fun t34_2 w =>
  st1 t37 t34_2 (fun w =>
  s12_p1 K t1 w) w) w) w)) w) w0) w0) w0) w0) w0) w0
def s12_p2 (K : Value → World → Prop) (t1 : Value) (w : World) : Prop := s12_p2_d K t1 (drw w) (drw w)
def s12_p2_den (K : Value → World → Prop) : (Nat → Value) → World → Prop := denL Tryd.prog [(cd (Tryd.f12.body.getD .skip) [1, 1, 1, 1, 0])] (s12_p1_den K) (fun i => (fun _ _ => False)) (s12_R K)
theorem s12_p2_ok (K : Value → World → Prop) (s : Nat → Value) (w : World) (h : s12_p2 K (s 1) w) : Tr (s12_p2_den K s w) :=
  tr_draw (P := Tryd.prog) (ops := (ro (cd (Tryd.f12.body.getD .skip) [1, 1, 1, 1, 0]))) (ms := [0, 0, 2, 6, 14, 0, 62, 126, 254, 254, 511, 1535, 3583]) (cs := [0, 1, 2, 3, 4, 5, 10, 11]) (N := (fun s w => s12_p1 K (s 1) w)) (N' := (s12_p1_den K)) (s := s) (w := w) (p := s12_p2 K (s 1) w) (q := s12_p2_den K s w) (by kernel_rfl) (by kernel_rfl) (fun s w h => s12_p1_ok K s w @h) (by kernel_rfl) (by kernel_rfl) @h
def s12_p3 (K : Value → World → Prop) (t1 : Value) (w : World) : Prop :=
  nck t1 (fun t22 w =>
  fd 0 t22 (fun t23 w =>
  ld1 t23 (fun t24 w =>
  cl Tryd.prog 25 #[t24] (fun t25 w =>
  s12_p2 K t1 w) w) w) w) w
def s12_p3_den (K : Value → World → Prop) : (Nat → Value) → World → Prop := denL Tryd.prog [(cd (Tryd.f12.body.getD .skip) [1, 1, 1, 0])] (s12_p2_den K) (fun i => (fun _ _ => False)) (s12_R K)
theorem s12_p3_ok (K : Value → World → Prop) (s : Nat → Value) (w : World) (h : s12_p3 K (s 1) w) : Tr (s12_p3_den K s w) :=
  tr_simple (P := Tryd.prog) (codes := [(cd (Tryd.f12.body.getD .skip) [1, 1, 1, 0])]) (N := (fun s w => s12_p2 K (s 1) w)) (N' := (s12_p2_den K)) (X := (fun i => (fun _ _ => False))) (X' := (fun i => (fun _ _ => False))) (R := s12_R K) (s := s) (w := w) (p := s12_p3 K (s 1) w) (q := s12_p3_den K s w) (fun s w h => s12_p2_ok K s w @h) (fun i => tr_id) (by kernel_rfl) (by kernel_rfl) @h
def s12_p4 (K : Value → World → Prop) (B1 : List Value → World → Prop) (t1 t2 : Value) (w : World) : Prop :=
  boI .lss t2 (.int .i64 4096) (fun t7 w =>
  ifb t7
  (nck t1 (fun t11 w =>
  fd 0 t11 (fun t12 w =>
  ld1 t12 (fun t13 w =>
  cvi .u32 t2 (fun t15 w =>
  cvi .u64 t2 (fun t17 w =>
  un .xor t17 (fun t18 w =>
  boI .mul t18 (.int .u64 65537) (fun t19 w =>
  cl Tryd.prog 28 #[t13, t15, t19] (fun t20 w =>
  boI .add t2 (.int .i64 1) (fun t9 w =>
  B1 [t1, t9] w) w) w) w) w) w) w) w) w) w)
  (s12_p3 K t1 w)) w
def s12_p4_den (K : Value → World → Prop) (M1 : (Nat → Value) → World → Prop) : (Nat → Value) → World → Prop := denL Tryd.prog [(cd (Tryd.f12.body.getD .skip) [1, 1, 0, 1, 0, 0, 0, 0]), (cd (Tryd.f12.body.getD .skip) [1, 1, 0, 1, 0, 0, 0, 1]), (cd (Tryd.f12.body.getD .skip) [1, 1, 0, 1, 0, 0, 1, 0]), (cd (Tryd.f12.body.getD .skip) [1, 1, 0, 1, 0, 0, 1, 1])] M1 (fun i => (bif Nat.beq i 0 then (s12_p3_den K) else (fun _ _ => False))) (s12_R K)
theorem s12_p4_ok (K : Value → World → Prop) (B1 : List Value → World → Prop) (s : Nat → Value) (w : World) (h : s12_p4 K B1 (s 1) (s 2) w) : Tr (s12_p4_den K (fun s w => B1 [s 1, s 2] w) s w) :=
  tr_simple (P := Tryd.prog) (codes := [(cd (Tryd.f12.body.getD .skip) [1, 1, 0, 1, 0, 0, 0, 0]), (cd (Tryd.f12.body.getD .skip) [1, 1, 0, 1, 0, 0, 0, 1]), (cd (Tryd.f12.body.getD .skip) [1, 1, 0, 1, 0, 0, 1, 0]), (cd (Tryd.f12.body.getD .skip) [1, 1, 0, 1, 0, 0, 1, 1])]) (N := (fun s w => B1 [s 1, s 2] w)) (N' := (fun s w => B1 [s 1, s 2] w)) (X := (fun i => (bif Nat.beq i 0 then (fun s w => s12_p3 K (s 1) w) else (fun _ _ => False)))) (X' := (fun i => (bif Nat.beq i 0 then (s12_p3_den K) else (fun _ _ => False)))) (R := s12_R K) (s := s) (w := w) (p := s12_p4 K B1 (s 1) (s 2) w) (q := s12_p4_den K (fun s w => B1 [s 1, s 2] w) s w) tr_id (fun i => (tr_bif (fun s w h => s12_p3_ok K s w @h) tr_id)) (by kernel_rfl) (by kernel_rfl) @h
def s12_p5_F (K : Value → World → Prop) (B1 : List Value → World → Prop) (l : List Value) (w : World) : Prop :=
  match l with
  | [t1, t2] => s12_p4 K B1 t1 t2 w
  | _ => False
theorem s12_p5_Fe {K : Value → World → Prop} {B1 : List Value → World → Prop} {t1 t2 : Value} {w : World} : s12_p5_F K B1 [t1, t2] w = s12_p4 K B1 t1 t2 w := by kernel_rfl
def s12_p5 (K : Value → World → Prop) (t1 t2 : Value) (w : World) : Prop :=
  LoopL (s12_p5_F K) [t1, t2] w
def s12_p5_den (K : Value → World → Prop) : (Nat → Value) → World → Prop := fun s w => LoopP (fun M1 s w => s12_p4_den K M1 s w) s w
theorem s12_p5_ok (K : Value → World → Prop) (s : Nat → Value) (w : World) (h : s12_p5 K (s 1) (s 2) w) : Tr (s12_p5_den K s w) :=
  tr_loop (G := fun N' s w => s12_p4_den K N' s w) (F := s12_p5_F K) (sel := fun s => [s 1, s 2]) (s := s) (w := w) (p := s12_p5 K (s 1) (s 2) w) (q := s12_p5_den K s w) (fun B s w h => s12_p4_ok K B s w @h) (by kernel_rfl) (by kernel_rfl) @h
def s12_p6 (K : Value → World → Prop) (w : World) : Prop :=
  cl Tryd.prog 27 #[(.int .i64 4096)] (fun t3 w =>
  bdq [(.pointer none), (.pointer none), (.pointer none), (.slice none 0 0)] [(some (0, 1), t3)] (fun t4 w =>
  nw 50 (t4).cells (fun t5 w =>
  s12_p5 K t5 (.int .i64 0) w) w) w) w
def s12_p6_den (K : Value → World → Prop) : (Nat → Value) → World → Prop := denL Tryd.prog [(cd (Tryd.f12.body.getD .skip) [0]), (cd (Tryd.f12.body.getD .skip) [1, 0]), (cd (Tryd.f12.body.getD .skip) [1, 1, 0, 0])] (s12_p5_den K) (fun i => (fun _ _ => False)) (s12_R K)
theorem s12_p6_ok (K : Value → World → Prop) (s : Nat → Value) (w : World) (h : s12_p6 K w) : Tr (s12_p6_den K s w) :=
  tr_simple (P := Tryd.prog) (codes := [(cd (Tryd.f12.body.getD .skip) [0]), (cd (Tryd.f12.body.getD .skip) [1, 0]), (cd (Tryd.f12.body.getD .skip) [1, 1, 0, 0])]) (N := (fun s w => s12_p5 K (s 1) (s 2) w)) (N' := (s12_p5_den K)) (X := (fun i => (fun _ _ => False))) (X' := (fun i => (fun _ _ => False))) (R := s12_R K) (s := s) (w := w) (p := s12_p6 K w) (q := s12_p6_den K s w) (fun s w h => s12_p5_ok K s w @h) (fun i => tr_id) (by kernel_rfl) (by kernel_rfl) @h
/-- the call, from the text -/
theorem c12 {K : Value → World → Prop} {w : World} (h : s12_p6 K  w) : cl Tryd.prog 12 #[] K w :=
  calls_of_tr (c := (Tryd.f12.body.getD .skip)) (fn := Tryd.f12) (q := s12_p6_den K (st0 #[]) w) Tryd.func12 (by kernel_rfl) (by kernel_rfl) (Nat.le_of_ble_eq_true (by kernel_rfl)) (by kernel_rfl) (by kernel_rfl) (s12_p6_ok K (st0 #[]) w @h)

/-! ### function 13 : (*e2e.poollaw.world).resolve -/
def s13_R (K : Value → World → Prop) (s : Nat → Value) (w : World) : Prop := retv Tryd.prog s Tryd.f13.results.toList (fun vs => K (pack vs) w) w
def s13_p1 (K : Value → World → Prop) (t4 t5 : Value) (w : World) : Prop :=
  ldn 6 t5 (fun t128 w =>
  stn 6 t4 t128 (fun w =>
  ldn 6 t4 (fun r0 _ =>
  K r0 w) w) w) w
def s13_p1_den (K : Value → World → Prop) : (Nat → Value) → World → Prop := denL Tryd.prog [(cd (Tryd.f13.body.getD .skip) [1, 1, 1, 0]), (cd (Tryd.f13.body.getD .skip) [1, 1, 1, 1])] (fun _ _ => False) (fun i => (fun _ _ => False)) (s13_R K)
theorem s13_p1_ok (K : Value → World → Prop) (s : Nat → Value) (w : World) (h : s13_p1 K (s 4) (s 5) w) : Tr (s13_p1_den K s w) :=
  tr_simple (P := Tryd.prog) (codes := [(cd (Tryd.f13.body.getD .skip) [1, 1, 1, 0]), (cd (Tryd.f13.body.getD .skip) [1, 1, 1, 1])]) (N := (fun _ _ => False)) (N' := (fun _ _ => False)) (X := (fun i => (fun _ _ => False))) (X' := (fun i => (fun _ _ => False))) (R := s13_R K) (s := s) (w := w) (p := s13_p1 K (s 4) (s 5) w) (q := s13_p1_den K s w) tr_id (fun i => tr_id) (by kernel_rfl) (by kernel_rfl) @h
def s13_p2_d (K : Value → World → Prop) (t3 t4 t5 : Value) (w0 w : World) : Prop :=
  fd 1 t3 (fun t21 _ =>
  fd 2 t3 (fun t25 _ =>
  fd 4 t5 (fun t29 _ =>
  fd 5 t5 (fun t30 _ =>
  (ld1 t21 (fun t22 w =>
  (cvi .u32 t22 (fun t23 w =>
  (cvi .i64 t23 (fun t24 w =>
  (ld1 t25 (fun t26 w =>
  (cvi .u32 t26 (fun t27 w =>
  (cvi .i64 t27 (fun t28 w =>
  st1 t29 t24 (fun w =>
  st1 t30 t28 (fun w =>
  s13_p1 K t4 t5 w) w) w) w) ∧
  (st1 t29 t24 (fun w =>
  cvi .i64 t27 (fun t28_2 w =>
  st1 t30 t28_2 (fun w =>
  s13_p1 K t4 t5 w) w) w) w)) w) ∧
  (st1 t29 t24 (fun w =>
  cvi .u32 t26 (fun t27_2 w =>
  cvi .i64 t27_2 (fun t28_3 w =>
  st1 t30 t28_3 (fun w =>
  s13_p1 K t4 t5 w) w) w) w) w)) w) ∧
  (st1 t29 t24 (fun w =>
  ld1 t25 (fun t26_2 w =>
  cvi .u32 t26_2 (fun t27_3 w =>
  cvi .i64 t27_3 (fun t28_4 w =>
  st1 t30 t28_4 (fun w =>
  s13_p1 K t4 t5 w) w) w) w) w) w)) w) ∧
  (ld1 t25 (fun t26_3 w =>
  (cvi .i64 t23 (fun t24_2 w =>
  (cvi .u32 t26_3 (fun t27_4 w =>
  (cvi .i64 t27_4 (fun t28_5 w =>
  st1 t29 t24_2 (fun w =>
  st1 t30 t28_5 (fun w =>
  s13_p1 K t4 t5 w) w) w) w) ∧
  (st1 t29 t24_2 (fun w =>
  cvi .i64 t27_4 (fun t28_6 w =>
  st1 t30 t28_6 (fun w =>
  s13_p1 K t4 t5 w) w) w) w)) w) ∧
  (st1 t29 t24_2 (fun w =>
  cvi .u32 t26_3 (fun t27_5 w =>
  cvi .i64 t27_5 (fun t28_7 w =>
  st1 t30 t28_7 (fun w =>
  s13_p1 K t4 t5 w) w) w) w) w)) w) ∧
  (cvi .u32 t26_3 (fun t27_6 w =>
  (cvi .i64 t23 (fun t24_3 w =>
  (cvi .i64 t27_6 (fun t28_8 w =>
  st1 t29 t24_3 (fun w =>
  st1 t30 t28_8 (fun w =>
  s13_p1 K t4 t5 w) w) w) w) ∧
  (st1 t29 t24_3 (fun w =>
  cvi .i64 t27_6 (fun t28_9 w =>
  st1 t30 t28_9 (fun w =>
  s13_p1 K t4 t5 w) w) w) w)) w) ∧
  (cvi .i64 t27_6 (fun t28_10 w =>
  cvi .i64 t23 (fun t24_4 w =>
  st1 t29 t24_4 (fun w =>
  st1 t30 t28_10 (fun w =>
  s13_p1 K t4 t5 w) w) w) w) w)) w)) w)) w) ∧
  (ld1 t25 (fun t26_4 w =>
  (cvi .u32 t22 (fun t23_2 w =>
  (cvi .i64 t23_2 (fun t24_5 w =>
  (cvi .u32 t26_4 (fun t27_7 w =>
  (cvi .i64 t27_7 (fun t28_11 w =>
  st1 t29 t24_5 (fun w =>
  st1 t30 t28_11 (fun w =>
  s13_p1 K t4 t5 w) w) w) w) ∧
  (st1 t29 t24_5 (fun w =>
  cvi .i64 t27_7 (fun t28_12 w =>
  st1 t30 t28_12 (fun w =>
  s13_p1 K t4 t5 w) w) w) w)) w) ∧
  (st1 t29 t24_5 (fun w =>
  cvi .u32 t26_4 (fun t27_8 w =>
  cvi .i64 t27_8 (fun t28_13 w =>
  st1 t30 t28_13 (fun w =>
  s13_p1 K t4 t5 w) w) w) w) w)) w) ∧
  (cvi .u32 t26_4 (fun t27_9 w =>
  (cvi .i64 t23_2 (fun t24_6 w =>
  (cvi .i64 t27_9 (fun t28_14 w =>
  st1 t29 t24_6 (fun w =>
  st1 t30 t28_14 (fun w =>
  s13_p1 K t4 t5 w) w) w) w) ∧
  (st1 t29 t24_6 (fun w =>
  cvi .i64 t27_9 (fun t28_15 w =>
  st1 t30 t28_15 (fun w =>
  s13_p1 K t4 t5 w) w) w) w)) w) ∧
  (cvi .i64 t27_9 (fun t28_16 w =>
  cvi .i64 t23_2 (fun t24_7 w =>
  st1 t29 t24_7 (fun w =>
  st1 t30 t28_16 (fun w =>
  s13_p1 K t4 t5 w) w) w) w) w)) w)) w) ∧
  (cvi .u32 t26_4 (fun t27_10 w =>
  (cvi .u32 t22 (fun t23_3 w =>
  (cvi .i64 t23_3 (fun t24_8 w =>
  (cvi .i64 t27_10 (fun t28_17 w =>
  st1 t29 t24_8 (fun w =>
  st1 t30 t28_17 (fun w =>
  s13_p1 K t4 t5 w) w) w) w) ∧
  (st1 t29 t24_8 (fun w =>
  cvi .i64 t27_10 (fun t28_18 w =>
  st1 t30 t28_18 (fun w =>
  s13_p1 K t4 t5 w) w) w) w)) w) ∧
  (cvi .i64 t27_10 (fun t28_19 w =>
  cvi .i64 t23_3 (fun t24_9 w =>
  st1 t29 t24_9 (fun w =>
  st1 t30 t28_19 (fun w =>
  s13_p1 K t4 t5 w) w) w) w) w)) w) ∧
  (cvi .i64 t27_10 (fun t28_20 w =>
  cvi .u32 t22 (fun t23_4 w =>
  cvi .i64 t23_4 (fun t24_10 w =>
  st1 t29 t24_10 (fun w =>
  st1 t30 t28_20 (fun w =>
  s13_p1 K t4 t5 w) w) w) w) w) w)) w)) w)) w) ∧
  (ld1 t25 (fun t26_5 w =>
  (ld1 t21 (fun t22_2 w =>
  (cvi .u32 t22_2 (fun t23_5 w =>
  (cvi .i64 t23_5 (fun t24_11 w =>
  (cvi .u32 t26_5 (fun t27_11 w =>
  (cvi .i64 t27_11 (fun t28_21 w =>
  st1 t29 t24_11 (fun w =>
  st1 t30 t28_21 (fun w =>
  s13_p1 K t4 t5 w) w) w) w) ∧
  (st1 t29 t24_11 (fun w =>
  cvi .i64 t27_11 (fun t28_22 w =>
  st1 t30 t28_22 (fun w =>
  s13_p1 K t4 t5 w) w) w) w)) w) ∧
  (st1 t29 t24_11 (fun w =>
  cvi .u32 t26_5 (fun t27_12 w =>
  cvi .i64 t27_12 (fun t28_23 w =>
  st1 t30 t28_23 (fun w =>
  s13_p1 K t4 t5 w) w) w) w) w)) w) ∧
  (cvi .u32 t26_5 (fun t27_13 w =>
  (cvi .i64 t23_5 (fun t24_12 w =>
  (cvi .i64 t27_13 (fun t28_24 w =>
  st1 t29 t24_12 (fun w =>
  st1 t30 t28_24 (fun w =>
  s13_p1 K t4 t5 w) w) w) w) ∧
  (st1 t29 t24_12 (fun w =>
  cvi .i64 t27_13 (fun t28_25 w =>
  st1 t30 t28_25 (fun w =>
  s13_p1 K t4 t5 w) w) w) w)) w) ∧
  (cvi .i64 t27_13 (fun t28_26 w =>
  cvi .i64 t23_5 (fun t24_13 w =>
  st1 t29 t24_13 (fun w =>
  st1 t30 t28_26 (fun w =>
  s13_p1 K t4 t5 w) w) w) w) w)) w)) w) ∧
  (cvi .u32 t26_5 (fun t27_14 w =>
  (cvi .u32 t22_2 (fun t23_6 w =>
  (cvi .i64 t23_6 (fun t24_14 w =>
  (cvi .i64 t27_14 (fun t28_27 w =>
  st1 t29 t24_14 (fun w =>
  st1 t30 t28_27 (fun w =>
  s13_p1 K t4 t5 w) w) w) w) ∧
  (st1 t29 t24_14 (fun w =>
  cvi .i64 t27_14 (fun t28_28 w =>
  st1 t30 t28_28 (fun w =>
  s13_p1 K t4 t5 w) w) w) w)) w) ∧
  (cvi .i64 t27_14 (fun t28_29 w =>
  cvi .i64 t23_6 (fun t24_15 w =>
  st1 t29 t24_15 (fun w =>
  st1 t30 t28_29 (fun w =>
  s13_p1 K t4 t5 w) w) w) w) w)) w) ∧
  (cvi .i64 t27_14 (fun t28_30 w =>
  cvi .u32 t22_2 (fun t23_7 w =>
  cvi .i64 t23_7 (fun t24_16 w =>
  st1 t29 t24_16 (fun w =>
  st1 t30 t28_30 (fun w =>
  s13_p1 K t4 t5 w) w) w) w) w) w)) w)) w) ∧
  (cvi .u32 t26_5 (fun t27_15 w =>
  (ld1 t21 (fun t22_3 w =>
  (cvi .u32 t22_3 (fun t23_8 w =>
  (cvi .i64 t23_8 (fun t24_17 w =>
  (cvi .i64 t27_15 (fun t28_31 w =>
  st1 t29 t24_17 (fun w =>
  st1 t30 t28_31 (fun w =>
  s13_p1 K t4 t5 w) w) w) w) ∧
  (st1 t29 t24_17 (fun w =>
  cvi .i64 t27_15 (fun t28_32 w =>
  st1 t30 t28_32 (fun w =>
  s13_p1 K t4 t5 w) w) w) w)) w) ∧
  (cvi .i64 t27_15 (fun t28_33 w =>
  cvi .i64 t23_8 (fun t24_18 w =>
  st1 t29 t24_18 (fun w =>
  st1 t30 t28_33 (fun w =>
  s13_p1 K t4 t5 w) w) w) w) w)) w) ∧
  (cvi .i64 t27_15 (fun t28_34 w =>
  cvi .u32 t22_3 (fun t23_9 w =>
  cvi .i64 t23_9 (fun t24_19 w =>
  st1 t29 t24_19 (fun w =>
  st1 t30 t28_34 (fun w =>
  s13_p1 K t4 t5 w) w) w) w) w) w)) w) ∧
  (cvi .i64 t27_15 (fun t28_35 w =>
  ld1 t21 (fun t22_4 w =>
  cvi .u32 t22_4 (fun t23_10 w =>
  cvi .i64 t23_10 (fun t24_20 w =>
  st1 t29 t24_20 (fun w =>
  st1 t30 t28_35 (fun w =>
  s13_p1 K t4 t5 w) w) w) w) w) w) w)) w)) w)) w0) w0) w0) w0
def s13_p2 (K : Value → World → Prop) (t3 t4 t5 : Value) (w : World) : Prop := s13_p2_d K t3 t4 t5 (drw w) (drw w)
def s13_p2_den (K : Value → World → Prop) : (Nat → Value) → World → Prop := denL Tryd.prog [(cd (Tryd.f13.body.getD .skip) [1, 1, 0, 1, 0, 1, 0])] (s13_p1_den K) (fun i => (bif Nat.beq i 0 then (s13_p1_den K) else (fun _ _ => False))) (s13_R K)
theorem s13_p2_ok (K : Value → World → Prop) (s : Nat → Value) (w : World) (h : s13_p2 K (s 3) (s 4) (s 5) w) : Tr (s13_p2_den K s w) :=
  tr_draw (P := Tryd.prog) (ops := (ro (cd (Tryd.f13.body.getD .skip) [1, 1, 0, 1, 0, 1, 0]))) (ms := [0, 1, 3, 7, 0, 16, 48, 112, 15, 271, 1023, 2047]) (cs := [0, 4, 8, 10]) (N := (fun s w => s13_p1 K (s 4) (s 5) w)) (N' := (s13_p1_den K)) (s := s) (w := w) (p := s13_p2 K (s 3) (s 4) (s 5) w) (q := s13_p2_den K s w) (by kernel_rfl) (by kernel_rfl) (fun s w h => s13_p1_ok K s w @h) (by kernel_rfl) (by kernel_rfl) @h
def s13_p3_d (K : Value → World → Prop) (t3 t4 t5 t6 : Value) (w0 w : World) : Prop :=
  nck t6 (fun t74 _ =>
  fd 0 t74 (fun t75 _ =>
  ld1 t75 (fun t76 _ =>
  fd 1 t3 (fun t77 _ =>
  ld1 t77 (fun t78 _ =>
  boI .add t76 t78 (fun t79 _ =>
  fd 1 t5 (fun t80 _ =>
  st1 t80 t79 (fun w =>
  s13_p1 K t4 t5 w) w) w0) w0) w0) w0) w0) w0) w0
def s13_p3 (K : Value → World → Prop) (t3 t4 t5 t6 : Value) (w : World) : Prop := s13_p3_d K t3 t4 t5 t6 (drw w) (drw w)
def s13_p3_den (K : Value → World → Prop) : (Nat → Value) → World → Prop := denL Tryd.prog [(cd (Tryd.f13.body.getD .skip) [1, 1, 0, 1, 0, 1, 1, 1, 0, 1, 1, 0, 1, 1])] (s13_p1_den K) (fun i => (bif Nat.beq i 0 then (s13_p1_den K) else (fun _ _ => False))) (s13_R K)
theorem s13_p3_ok (K : Value → World → Prop) (s : Nat → Value) (w : World) (h : s13_p3 K (s 3) (s 4) (s 5) (s 6) w) : Tr (s13_p3_den K s w) :=
  tr_draw (P := Tryd.prog) (ops := (ro (cd (Tryd.f13.body.getD .skip) [1, 1, 0, 1, 0, 1, 1, 1, 0, 1, 1, 0, 1, 1]))) (ms := [0, 1, 3, 7, 0, 16, 63, 127, 255]) (cs := [0, 1, 2, 3, 4, 5, 6, 7]) (N := (fun s w => s13_p1 K (s 4) (s 5) w)) (N' := (s13_p1_den K)) (s := s) (w := w) (p := s13_p3 K (s 3) (s 4) (s 5) (s 6) w) (q := s13_p3_den K s w) (by kernel_rfl) (by kernel_rfl) (fun s w h => s13_p1_ok K s w @h) (by kernel_rfl) (by kernel_rfl) @h
def s13_p4_d (K : Value → World → Prop) (t3 t4 t5 t6 : Value) (w0 w : World) : Prop :=
  nck t6 (fun t64 _ =>
  fd 1 t64 (fun t65 _ =>
  ld1 t65 (fun t66 _ =>
  cvi .i64 t66 (fun t67 _ =>
  fd 3 t3 (fun t68 _ =>
  ld1 t68 (fun t69 _ =>
  boI .add t67 t69 (fun t70 _ =>
  cvi .u32 t70 (fun t71 _ =>
  fd 2 t5 (fun t72 _ =>
  st1 t72 t71 (fun w =>
  s13_p3 K t3 t4 t5 t6 w) w) w0) w0) w0) w0) w0) w0) w0) w0) w0
def s13_p4 (K : Value → World → Prop) (t3 t4 t5 t6 : Value) (w : World) : Prop := s13_p4_d K t3 t4 t5 t6 (drw w) (drw w)
def s13_p4_den (K : Value → World → Prop) : (Nat → Value) → World → Prop := denL Tryd.prog [(cd (Tryd.f13.body.getD .skip) [1, 1, 0, 1, 0, 1, 1, 1, 0, 1, 1, 0, 1, 0])] (s13_p3_den K) (fun i => (bif Nat.beq i 0 then (s13_p1_den K) else (fun _ _ => False))) (s13_R K)
theorem s13_p4_ok (K : Value → World → Prop) (s : Nat → Value) (w : World) (h : s13_p4 K (s 3) (s 4) (s 5) (s 6) w) : Tr (s13_p4_den K s w) :=
  tr_draw (P := Tryd.prog) (ops := (ro (cd (Tryd.f13.body.getD .skip) [1, 1, 0, 1, 0, 1, 1, 1, 0, 1, 1, 0, 1, 0]))) (ms := [0, 1, 3, 7, 15, 0, 32, 127, 255, 511, 1023]) (cs := [0, 1, 2, 3, 4, 5, 6, 7, 8, 9]) (N := (fun s w => s13_p3 K (s 3) (s 4) (s 5) (s 6) w)) (N' := (s13_p3_den K)) (s := s) (w := w) (p := s13_p4 K (s 3) (s 4) (s 5) (s 6) w) (q := s13_p4_den K s w) (by kernel_rfl) (by kernel_rfl) (fun s w h => s13_p3_ok K s w @h) (by kernel_rfl) (by kernel_rfl) @h
def s13_p5_d (K : Value → World → Prop) (t0 t3 t4 t5 : Value) (w0 w : World) : Prop :=
  nck t0 (fun t51 _ =>
  fd 3 t51 (fun t52 _ =>
  ld1 t52 (fun t53 _ =>
  fd 2 t3 (fun t54 _ =>
  ld1 t54 (fun t55 _ =>
  nck t0 (fun t57 _ =>
  fd 3 t57 (fun t58 _ =>
  ld1 t58 (fun t59 _ =>
  lnS t59 (fun t60 _ =>
  boI .rem t55 t60 (fun t61 _ =>
  ixs 3 t53 t61 (fun t62 _ =>
  s13_p4 K t3 t4 t5 t62 w) w0) w0) w0) w0) w0) w0) w0) w0) w0) w0) w0
def s13_p5 (K : Value → World → Prop) (t0 t3 t4 t5 : Value) (w : World) : Prop := s13_p5_d K t0 t3 t4 t5 (drw w) (drw w)
def s13_p5_den (K : Value → World → Prop) : (Nat → Value) → World → Prop := denL Tryd.prog [(cd (Tryd.f13.body.getD .skip) [1, 1, 0, 1, 0, 1, 1, 1, 0, 1, 1, 0, 0])] (s13_p4_den K) (fun i => (bif Nat.beq i 0 then (s13_p1_den K) else (fun _ _ => False))) (s13_R K)
theorem s13_p5_ok (K : Value → World → Prop) (s : Nat → Value) (w : World) (h : s13_p5 K (s 0) (s 3) (s 4) (s 5) w) : Tr (s13_p5_den K s w) :=
  tr_draw (P := Tryd.prog) (ops := (ro (cd (Tryd.f13.body.getD .skip) [1, 1, 0, 1, 0, 1, 1, 1, 0, 1, 1, 0, 0]))) (ms := [0, 1, 3, 7, 0, 16, 0, 64, 192, 448, 960, 2032, 4095, 8191]) (cs := [0, 1, 2, 3, 4, 5, 6, 7, 8, 9, 10, 11, 12, 13]) (N := (fun s w => s13_p4 K (s 3) (s 4) (s 5) (s 6) w)) (N' := (s13_p4_den K)) (s := s) (w := w) (p := s13_p5 K (s 0) (s 3) (s 4) (s 5) w) (q := s13_p5_den K s w) (by kernel_rfl) (by kernel_rfl) (fun s w h => s13_p4_ok K s w @h) (by kernel_rfl) (by kernel_rfl) @h
def s13_p6 (K : Value → World → Prop) (t0 t3 t4 t5 t49 : Value) (w : World) : Prop :=
  ifb t49
  (s13_p5 K t0 t3 t4 t5 w)
  (s13_p1 K t4 t5 w)
def s13_p6_den (K : Value → World → Prop) : (Nat → Value) → World → Prop := fun s w => ifb (ev s (.tmp 49)) ((s13_p5_den K) s w) ((s13_p1_den K) s w)
theorem s13_p6_ok (K : Value → World → Prop) (s : Nat → Value) (w : World) (h : s13_p6 K (s 0) (s 3) (s 4) (s 5) (s 49) w) : Tr (s13_p6_den K s w) :=
  tr_cond (v := ev s (.tmp 49)) (a := (fun s w => s13_p5 K (s 0) (s 3) (s 4) (s 5) w) s w) (a' := (s13_p5_den K) s w) (b := (fun s w => s13_p1 K (s 4) (s 5) w) s w) (b' := (s13_p1_den K) s w) (p := s13_p6 K (s 0) (s 3) (s 4) (s 5) (s 49) w) (q := s13_p6_den K s w) ((fun s w h => s13_p5_ok K s w @h) s w) ((fun s w h => s13_p1_ok K s w @h) s w) (by kernel_rfl) (by kernel_rfl) @h
def s13_p7 (K : Value → World → Prop) (t0 t3 t4 t5 : Value) (w : World) : Prop :=
  fd 3 t3 (fun t35 w =>
  ld1 t35 (fun t36 w =>
  cvi .u32 t36 (fun t37 w =>
  fd 2 t5 (fun t38 w =>
  st1 t38 t37 (fun w =>
  fd 2 t3 (fun t39 w =>
  ld1 t39 (fun t40 w =>
  boI .geq t40 (.int .i64 0) (fun t41 w =>
  gd t41 true (fun K w => K t0 w) (fun t43 w =>
  gd t41 true (nck t43) (fun t44 w =>
  gd t41 true (fd 3 t44) (fun t45 w =>
  gd t41 true (ld1 t45) (fun t46 w =>
  gd t41 true (lnS t46) (fun t47 w =>
  gd t41 true (boI .gtr t47 (.int .i64 0)) (fun t48 w =>
  pk t41 t48 (.bool false) (fun t49 w =>
  s13_p6 K t0 t3 t4 t5 t49 w) w) w) w) w) w) w) w) w) w) w) w) w) w) w) w
def s13_p7_den (K : Value → World → Prop) : (Nat → Value) → World → Prop := denL Tryd.prog [(cd (Tryd.f13.body.getD .skip) [1, 1, 0, 1, 0, 1, 1, 1, 0, 0]), (cd (Tryd.f13.body.getD .skip) [1, 1, 0, 1, 0, 1, 1, 1, 0, 1, 0])] (s13_p6_den K) (fun i => (bif Nat.beq i 0 then (s13_p1_den K) else (fun _ _ => False))) (s13_R K)
theorem s13_p7_ok (K : Value → World → Prop) (s : Nat → Value) (w : World) (h : s13_p7 K (s 0) (s 3) (s 4) (s 5) w) : Tr (s13_p7_den K s w) :=
  tr_simple (P := Tryd.prog) (codes := [(cd (Tryd.f13.body.getD .skip) [1, 1, 0, 1, 0, 1, 1, 1, 0, 0]), (cd (Tryd.f13.body.getD .skip) [1, 1, 0, 1, 0, 1, 1, 1, 0, 1, 0])]) (N := (fun s w => s13_p6 K (s 0) (s 3) (s 4) (s 5) (s 49) w)) (N' := (s13_p6_den K)) (X := (fun i => (bif Nat.beq i 0 then (fun s w => s13_p1 K (s 4) (s 5) w) else (fun _ _ => False)))) (X' := (fun i => (bif Nat.beq i 0 then (s13_p1_den K) else (fun _ _ => False)))) (R := s13_R K) (s := s) (w := w) (p := s13_p7 K (s 0) (s 3) (s 4) (s 5) w) (q := s13_p7_den K s w) (fun s w h => s13_p6_ok K s w @h) (fun i => (tr_bif (fun s w h => s13_p1_ok K s w @h) tr_id)) (by kernel_rfl) (by kernel_rfl) @h
def s13_p8 (K : Value → World → Prop) (t3 t4 t5 t7 : Value) (w : World) : Prop :=
  fd 3 t3 (fun t113 w =>
  ld1 t113 (fun t114 w =>
  boI .rem t114 t7 (fun t116 w =>
  boI .add t116 t7 (fun t118 w =>
  boI .rem t118 t7 (fun t120 w =>
  fd 5 t5 (fun t121 w =>
  st1 t121 t120 (fun w =>
  s13_p1 K t4 t5 w) w) w) w) w) w) w) w
def s13_p8_den (K : Value → World → Prop) : (Nat → Value) → World → Prop := denL Tryd.prog [(cd (Tryd.f13.body.getD .skip) [1, 1, 0, 1, 0, 1, 1, 1, 1, 1, 0, 1, 0, 1, 1])] (s13_p1_den K) (fun i => (bif Nat.beq i 0 then (s13_p1_den K) else (fun _ _ => False))) (s13_R K)
theorem s13_p8_ok (K : Value → World → Prop) (s : Nat → Value) (w : World) (h : s13_p8 K (s 3) (s 4) (s 5) (s 7) w) : Tr (s13_p8_den K s w) :=
  tr_simple (P := Tryd.prog) (codes := [(cd (Tryd.f13.body.getD .skip) [1, 1, 0, 1, 0, 1, 1, 1, 1, 1, 0, 1, 0, 1, 1])]) (N := (fun s w => s13_p1 K (s 4) (s 5) w)) (N' := (s13_p1_den K)) (X := (fun i => (bif Nat.beq i 0 then (fun s w => s13_p1 K (s 4) (s 5) w) else (fun _ _ => False)))) (X' := (fun i => (bif Nat.beq i 0 then (s13_p1_den K) else (fun _ _ => False)))) (R := s13_R K) (s := s) (w := w) (p := s13_p8 K (s 3) (s 4) (s 5) (s 7) w) (q := s13_p8_den K s w) (fun s w h => s13_p1_ok K s w @h) (fun i => (tr_bif (fun s w h => s13_p1_ok K s w @h) tr_id)) (by kernel_rfl) (by kernel_rfl) @h
def s13_p9_d (K : Value → World → Prop) (t0 t3 t4 t5 : Value) (w0 w : World) : Prop :=
  nck t0 (fun t104 _ =>
  fd 3 t104 (fun t105 _ =>
  ld1 t105 (fun t106 _ =>
  fd 3 t5 (fun t107 _ =>
  ld1 t107 (fun t108 _ =>
  ixs 3 t106 t108 (fun t109 _ =>
  fd 2 t109 (fun t110 _ =>
  ld1 t110 (fun t111 _ =>
  lnS t111 (fun t112 _ =>
  s13_p8 K t3 t4 t5 t112 w) w0) w0) w0) w0) w0) w0) w0) w0) w0
def s13_p9 (K : Value → World → Prop) (t0 t3 t4 t5 : Value) (w : World) : Prop := s13_p9_d K t0 t3 t4 t5 (drw w) (drw w)
def s13_p9_den (K : Value → World → Prop) : (Nat → Value) → World → Prop := denL Tryd.prog [(cd (Tryd.f13.body.getD .skip) [1, 1, 0, 1, 0, 1, 1, 1, 1, 1, 0, 1, 0, 1, 0])] (s13_p8_den K) (fun i => (bif Nat.beq i 0 then (s13_p1_den K) else (fun _ _ => False))) (s13_R K)
theorem s13_p9_ok (K : Value → World → Prop) (s : Nat → Value) (w : World) (h : s13_p9 K (s 0) (s 3) (s 4) (s 5) w) : Tr (s13_p9_den K s w) :=
  tr_draw (P := Tryd.prog) (ops := (ro (cd (Tryd.f13.body.getD .skip) [1, 1, 0, 1, 0, 1, 1, 1, 1, 1, 0, 1, 0, 1, 0]))) (ms := [0, 1, 3, 7, 0, 16, 63, 127, 255, 511, 1023]) (cs := [0, 1, 2, 3, 4, 5, 6, 7, 8, 9, 10]) (N := (fun s w => s13_p8 K (s 3) (s 4) (s 5) (s 7) w)) (N' := (s13_p8_den K)) (s := s) (w := w) (p := s13_p9 K (s 0) (s 3) (s 4) (s 5) w) (q := s13_p9_den K s w) (by kernel_rfl) (by kernel_rfl) (fun s w h => s13_p8_ok K s w @h) (by kernel_rfl) (by kernel_rfl) @h
def s13_p10_d (K : Value → World → Prop) (t0 t3 t4 t5 : Value) (w0 w : World) : Prop :=
  fd 2 t3 (fun t94 _ =>
  ld1 t94 (fun t95 _ =>
  nck t0 (fun t97 _ =>
  fd 3 t97 (fun t98 _ =>
  ld1 t98 (fun t99 _ =>
  lnS t99 (fun t100 _ =>
  boI .rem t95 t100 (fun t101 _ =>
  fd 3 t5 (fun t102 _ =>
  st1 t102 t101 (fun w =>
  s13_p9 K t0 t3 t4 t5 w) w) w0) w0) w0) w0) w0) w0) w0) w0
def s13_p10 (K : Value → World → Prop) (t0 t3 t4 t5 : Value) (w : World) : Prop := s13_p10_d K t0 t3 t4 t5 (drw w) (drw w)
def s13_p10_den (K : Value → World → Prop) : (Nat → Value) → World → Prop := denL Tryd.prog [(cd (Tryd.f13.body.getD .skip) [1, 1, 0, 1, 0, 1, 1, 1, 1, 1, 0, 1, 0, 0])] (s13_p9_den K) (fun i => (bif Nat.beq i 0 then (s13_p1_den K) else (fun _ _ => False))) (s13_R K)
theorem s13_p10_ok (K : Value → World → Prop) (s : Nat → Value) (w : World) (h : s13_p10 K (s 0) (s 3) (s 4) (s 5) w) : Tr (s13_p10_den K s w) :=
  tr_draw (P := Tryd.prog) (ops := (ro (cd (Tryd.f13.body.getD .skip) [1, 1, 0, 1, 0, 1, 1, 1, 1, 1, 0, 1, 0, 0]))) (ms := [0, 1, 0, 4, 12, 28, 60, 127, 255, 511]) (cs := [0, 1, 2, 3, 4, 5, 6, 7, 8]) (N := (fun s w => s13_p9 K (s 0) (s 3) (s 4) (s 5) w)) (N' := (s13_p9_den K)) (s := s) (w := w) (p := s13_p10 K (s 0) (s 3) (s 4) (s 5) w) (q := s13_p10_den K s w) (by kernel_rfl) (by kernel_rfl) (fun s w h => s13_p9_ok K s w @h) (by kernel_rfl) (by kernel_rfl) @h
def s13_p11 (K : Value → World → Prop) (t0 t3 t4 t5 t93 : Value) (w : World) : Prop :=
  ifb t93
  (s13_p10 K t0 t3 t4 t5 w)
  (s13_p1 K t4 t5 w)
def s13_p11_den (K : Value → World → Prop) : (Nat → Value) → World → Prop := fun s w => ifb (ev s (.tmp 93)) ((s13_p10_den K) s w) ((s13_p1_den K) s w)
theorem s13_p11_ok (K : Value → World → Prop) (s : Nat → Value) (w : World) (h : s13_p11 K (s 0) (s 3) (s 4) (s 5) (s 93) w) : Tr (s13_p11_den K s w) :=
  tr_cond (v := ev s (.tmp 93)) (a := (fun s w => s13_p10 K (s 0) (s 3) (s 4) (s 5) w) s w) (a' := (s13_p10_den K) s w) (b := (fun s w => s13_p1 K (s 4) (s 5) w) s w) (b' := (s13_p1_den K) s w) (p := s13_p11 K (s 0) (s 3) (s 4) (s 5) (s 93) w) (q := s13_p11_den K s w) ((fun s w h => s13_p10_ok K s w @h) s w) ((fun s w h => s13_p1_ok K s w @h) s w) (by kernel_rfl) (by kernel_rfl) @h
def s13_p12 (K : Value → World → Prop) (t0 t3 t4 t5 : Value) (w : World) : Prop :=
  fd 2 t3 (fun t83 w =>
  ld1 t83 (fun t84 w =>
  boI .geq t84 (.int .i64 0) (fun t85 w =>
  gd t85 true (fun K w => K t0 w) (fun t87 w =>
  gd t85 true (nck t87) (fun t88 w =>
  gd t85 true (fd 3 t88) (fun t89 w =>
  gd t85 true (ld1 t89) (fun t90 w =>
  gd t85 true (lnS t90) (fun t91 w =>
  gd t85 true (boI .gtr t91 (.int .i64 0)) (fun t92 w =>
  pk t85 t92 (.bool false) (fun t93 w =>
  s13_p11 K t0 t3 t4 t5 t93 w) w) w) w) w) w) w) w) w) w) w
def s13_p12_den (K : Value → World → Prop) : (Nat → Value) → World → Prop := denL Tryd.prog [(cd (Tryd.f13.body.getD .skip) [1, 1, 0, 1, 0, 1, 1, 1, 1, 1, 0, 0])] (s13_p11_den K) (fun i => (bif Nat.beq i 0 then (s13_p1_den K) else (fun _ _ => False))) (s13_R K)
theorem s13_p12_ok (K : Value → World → Prop) (s : Nat → Value) (w : World) (h : s13_p12 K (s 0) (s 3) (s 4) (s 5) w) : Tr (s13_p12_den K s w) :=
  tr_simple (P := Tryd.prog) (codes := [(cd (Tryd.f13.body.getD .skip) [1, 1, 0, 1, 0, 1, 1, 1, 1, 1, 0, 0])]) (N := (fun s w => s13_p11 K (s 0) (s 3) (s 4) (s 5) (s 93) w)) (N' := (s13_p11_den K)) (X := (fun i => (bif Nat.beq i 0 then (fun s w => s13_p1 K (s 4) (s 5) w) else (fun _ _ => False)))) (X' := (fun i => (bif Nat.beq i 0 then (s13_p1_den K) else (fun _ _ => False)))) (R := s13_R K) (s := s) (w := w) (p := s13_p12 K (s 0) (s 3) (s 4) (s 5) w) (q := s13_p12_den K s w) (fun s w h => s13_p11_ok K s w @h) (fun i => (tr_bif (fun s w h => s13_p1_ok K s w @h) tr_id)) (by kernel_rfl) (by kernel_rfl) @h
def s13_p13 (K : Value → World → Prop) (t3 t4 t5 t18 : Value) (w : World) : Prop :=
  boI .eql t18 (.int .u8 8) (fun t123 w =>
  ifb t123
  (fd 3 t3 (fun t124 w =>
  ld1 t124 (fun t125 w =>
  cvi .u32 t125 (fun t126 w =>
  fd 2 t5 (fun t127 w =>
  st1 t127 t126 (fun w =>
  s13_p1 K t4 t5 w) w) w) w) w) w)
  (s13_p1 K t4 t5 w)) w
def s13_p13_den (K : Value → World → Prop) : (Nat → Value) → World → Prop := denL Tryd.prog [(cd (Tryd.f13.body.getD .skip) [1, 1, 0, 1, 0, 1, 1, 1, 1, 1, 1, 0]), (cd (Tryd.f13.body.getD .skip) [1, 1, 0, 1, 0, 1, 1, 1, 1, 1, 1, 1])] (s13_p1_den K) (fun i => (bif Nat.beq i 0 then (s13_p1_den K) else (fun _ _ => False))) (s13_R K)
theorem s13_p13_ok (K : Value → World → Prop) (s : Nat → Value) (w : World) (h : s13_p13 K (s 3) (s 4) (s 5) (s 18) w) : Tr (s13_p13_den K s w) :=
  tr_simple (P := Tryd.prog) (codes := [(cd (Tryd.f13.body.getD .skip) [1, 1, 0, 1, 0, 1, 1, 1, 1, 1, 1, 0]), (cd (Tryd.f13.body.getD .skip) [1, 1, 0, 1, 0, 1, 1, 1, 1, 1, 1, 1])]) (N := (fun s w => s13_p1 K (s 4) (s 5) w)) (N' := (s13_p1_den K)) (X := (fun i => (bif Nat.beq i 0 then (fun s w => s13_p1 K (s 4) (s 5) w) else (fun _ _ => False)))) (X' := (fun i => (bif Nat.beq i 0 then (s13_p1_den K) else (fun _ _ => False)))) (R := s13_R K) (s := s) (w := w) (p := s13_p13 K (s 3) (s 4) (s 5) (s 18) w) (q := s13_p13_den K s w) (fun s w h => s13_p1_ok K s w @h) (fun i => (tr_bif (fun s w h => s13_p1_ok K s w @h) tr_id)) (by kernel_rfl) (by kernel_rfl) @h
def s13_p14 (K : Value → World → Prop) (t0 t3 t4 t5 t18 t81 : Value) (w : World) : Prop :=
  ifb t81
  (s13_p12 K t0 t3 t4 t5 w)
  (s13_p13 K t3 t4 t5 t18 w)
def s13_p14_den (K : Value → World → Prop) : (Nat → Value) → World → Prop := fun s w => ifb (ev s (.tmp 81)) ((s13_p12_den K) s w) ((s13_p13_den K) s w)
theorem s13_p14_ok (K : Value → World → Prop) (s : Nat → Value) (w : World) (h : s13_p14 K (s 0) (s 3) (s 4) (s 5) (s 18) (s 81) w) : Tr (s13_p14_den K s w) :=
  tr_cond (v := ev s (.tmp 81)) (a := (fun s w => s13_p12 K (s 0) (s 3) (s 4) (s 5) w) s w) (a' := (s13_p12_den K) s w) (b := (fun s w => s13_p13 K (s 3) (s 4) (s 5) (s 18) w) s w) (b' := (s13_p13_den K) s w) (p := s13_p14 K (s 0) (s 3) (s 4) (s 5) (s 18) (s 81) w) (q := s13_p14_den K s w) ((fun s w h => s13_p12_ok K s w @h) s w) ((fun s w h => s13_p13_ok K s w @h) s w) (by kernel_rfl) (by kernel_rfl) @h
def s13_p15 (K : Value → World → Prop) (t0 t3 t4 t5 t18 : Value) (w : World) : Prop :=
  boI .eql t18 (.int .u8 7) (fun t82 w =>
  s13_p14 K t0 t3 t4 t5 t18 t82 w) w
def s13_p15_den (K : Value → World → Prop) : (Nat → Value) → World → Prop := denL Tryd.prog [(cd (Tryd.f13.body.getD .skip) [1, 1, 0, 1, 0, 1, 1, 1, 1, 0])] (s13_p14_den K) (fun i => (bif Nat.beq i 0 then (s13_p1_den K) else (fun _ _ => False))) (s13_R K)
theorem s13_p15_ok (K : Value → World → Prop) (s : Nat → Value) (w : World) (h : s13_p15 K (s 0) (s 3) (s 4) (s 5) (s 18) w) : Tr (s13_p15_den K s w) :=
  tr_simple (P := Tryd.prog) (codes := [(cd (Tryd.f13.body.getD .skip) [1, 1, 0, 1, 0, 1, 1, 1, 1, 0])]) (N := (fun s w => s13_p14 K (s 0) (s 3) (s 4) (s 5) (s 18) (s 81) w)) (N' := (s13_p14_den K)) (X := (fun i => (bif Nat.beq i 0 then (fun s w => s13_p1 K (s 4) (s 5) w) else (fun _ _ => False)))) (X' := (fun i => (bif Nat.beq i 0 then (s13_p1_den K) else (fun _ _ => False)))) (R := s13_R K) (s := s) (w := w) (p := s13_p15 K (s 0) (s 3) (s 4) (s 5) (s 18) w) (q := s13_p15_den K s w) (fun s w h => s13_p14_ok K s w @h) (fun i => (tr_bif (fun s w h => s13_p1_ok K s w @h) tr_id)) (by kernel_rfl) (by kernel_rfl) @h
def s13_p16 (K : Value → World → Prop) (t0 t3 t4 t5 t18 t31 : Value) (w : World) : Prop :=
  ifb t31
  (s13_p7 K t0 t3 t4 t5 w)
  (s13_p15 K t0 t3 t4 t5 t18 w)
def s13_p16_den (K : Value → World → Prop) : (Nat → Value) → World → Prop := fun s w => ifb (ev s (.tmp 31)) ((s13_p7_den K) s w) ((s13_p15_den K) s w)
theorem s13_p16_ok (K : Value → World → Prop) (s : Nat → Value) (w : World) (h : s13_p16 K (s 0) (s 3) (s 4) (s 5) (s 18) (s 31) w) : Tr (s13_p16_den K s w) :=
  tr_cond (v := ev s (.tmp 31)) (a := (fun s w => s13_p7 K (s 0) (s 3) (s 4) (s 5) w) s w) (a' := (s13_p7_den K) s w) (b := (fun s w => s13_p15 K (s 0) (s 3) (s 4) (s 5) (s 18) w) s w) (b' := (s13_p15_den K) s w) (p := s13_p16 K (s 0) (s 3) (s 4) (s 5) (s 18) (s 31) w) (q := s13_p16_den K s w) ((fun s w h => s13_p7_ok K s w @h) s w) ((fun s w h => s13_p15_ok K s w @h) s w) (by kernel_rfl) (by kernel_rfl) @h
def s13_p17 (K : Value → World → Prop) (t0 t3 t4 t5 t18 : Value) (w : World) : Prop :=
  boI .eql t18 (.int .u8 3) (fun t32 w =>
  ifb t32
  (s13_p16 K t0 t3 t4 t5 t18 t32 w)
  (boI .eql t18 (.int .u8 4) (fun t33 w =>
  ifb t33
  (s13_p16 K t0 t3 t4 t5 t18 t33 w)
  (boI .eql t18 (.int .u8 5) (fun t34 w =>
  s13_p16 K t0 t3 t4 t5 t18 t34 w) w)) w)) w
def s13_p17_den (K : Value → World → Prop) : (Nat → Value) → World → Prop := denL Tryd.prog [(cd (Tryd.f13.body.getD .skip) [1, 1, 0, 1, 0, 1, 1, 0, 0]), (cd (Tryd.f13.body.getD .skip) [1, 1, 0, 1, 0, 1, 1, 0, 1])] (s13_p16_den K) (fun i => (bif Nat.beq i 0 then (s13_p1_den K) else (fun _ _ => False))) (s13_R K)
theorem s13_p17_ok (K : Value → World → Prop) (s : Nat → Value) (w : World) (h : s13_p17 K (s 0) (s 3) (s 4) (s 5) (s 18) w) : Tr (s13_p17_den K s w) :=
  tr_simple (P := Tryd.prog) (codes := [(cd (Tryd.f13.body.getD .skip) [1, 1, 0, 1, 0, 1, 1, 0, 0]), (cd (Tryd.f13.body.getD .skip) [1, 1, 0, 1, 0, 1, 1, 0, 1])]) (N := (fun s w => s13_p16 K (s 0) (s 3) (s 4) (s 5) (s 18) (s 31) w)) (N' := (s13_p16_den K)) (X := (fun i => (bif Nat.beq i 0 then (fun s w => s13_p1 K (s 4) (s 5) w) else (fun _ _ => False)))) (X' := (fun i => (bif Nat.beq i 0 then (s13_p1_den K) else (fun _ _ => False)))) (R := s13_R K) (s := s) (w := w) (p := s13_p17 K (s 0) (s 3) (s 4) (s 5) (s 18) w) (q := s13_p17_den K s w) (fun s w h => s13_p16_ok K s w @h) (fun i => (tr_bif (fun s w h => s13_p1_ok K s w @h) tr_id)) (by kernel_rfl) (by kernel_rfl) @h
def s13_p18 (K : Value → World → Prop) (t0 t3 t4 t5 t18 t19 : Value) (w : World) : Prop :=
  ifb t19
  (s13_p2 K t3 t4 t5 w)
  (s13_p17 K t0 t3 t4 t5 t18 w)
def s13_p18_den (K : Value → World → Prop) : (Nat → Value) → World → Prop := fun s w => ifb (ev s (.tmp 19)) ((s13_p2_den K) s w) ((s13_p17_den K) s w)
theorem s13_p18_ok (K : Value → World → Prop) (s : Nat → Value) (w : World) (h : s13_p18 K (s 0) (s 3) (s 4) (s 5) (s 18) (s 19) w) : Tr (s13_p18_den K s w) :=
  tr_cond (v := ev s (.tmp 19)) (a := (fun s w => s13_p2 K (s 3) (s 4) (s 5) w) s w) (a' := (s13_p2_den K) s w) (b := (fun s w => s13_p17 K (s 0) (s 3) (s 4) (s 5) (s 18) w) s w) (b' := (s13_p17_den K) s w) (p := s13_p18 K (s 0) (s 3) (s 4) (s 5) (s 18) (s 19) w) (q := s13_p18_den K s w) ((fun s w h => s13_p2_ok K s w @h) s w) ((fun s w h => s13_p17_ok K s w @h) s w) (by kernel_rfl) (by kernel_rfl) @h
def s13_p19 (K : Value → World → Prop) (t0 t3 t4 t5 t18 : Value) (w : World) : Prop :=
  boI .eql t18 (.int .u8 0) (fun t20 w =>
  s13_p18 K t0 t3 t4 t5 t18 t20 w) w
def s13_p19_den (K : Value → World → Prop) : (Nat → Value) → World → Prop := denL Tryd.prog [(cd (Tryd.f13.body.getD .skip) [1, 1, 0, 1, 0, 0])] (s13_p18_den K) (fun i => (bif Nat.beq i 0 then (s13_p1_den K) else (fun _ _ => False))) (s13_R K)
theorem s13_p19_ok (K : Value → World → Prop) (s : Nat → Value) (w : World) (h : s13_p19 K (s 0) (s 3) (s 4) (s 5) (s 18) w) : Tr (s13_p19_den K s w) :=
  tr_simple (P := Tryd.prog) (codes := [(cd (Tryd.f13.body.getD .skip) [1, 1, 0, 1, 0, 0])]) (N := (fun s w => s13_p18 K (s 0) (s 3) (s 4) (s 5) (s 18) (s 19) w)) (N' := (s13_p18_den K)) (X := (fun i => (bif Nat.beq i 0 then (fun s w => s13_p1 K (s 4) (s 5) w) else (fun _ _ => False)))) (X' := (fun i => (bif Nat.beq i 0 then (s13_p1_den K) else (fun _ _ => False)))) (R := s13_R K) (s := s) (w := w) (p := s13_p19 K (s 0) (s 3) (s 4) (s 5) (s 18) w) (q := s13_p19_den K s w) (fun s w h => s13_p18_ok K s w @h) (fun i => (tr_bif (fun s w h => s13_p1_ok K s w @h) tr_id)) (by kernel_rfl) (by kernel_rfl) @h
def s13_p20 (K : Value → World → Prop) (t0 t1 : Value) (w : World) : Prop :=
  nw 28 (t1).cells (fun t3 w =>
  nw 33 #[(.int .u8 0), (.int .i64 0), (.int .u32 0), (.int .i64 0), (.int .i64 0), (.int .i64 0)] (fun t4 w =>
  fd 0 t3 (fun t8 w =>
  ld1 t8 (fun t9 w =>
  fd 1 t3 (fun t10 w =>
  ld1 t10 (fun t11 w =>
  fd 1 t3 (fun t12 w =>
  ld1 t12 (fun t13 w =>
  fd 2 t3 (fun t14 w =>
  ld1 t14 (fun t15 w =>
  bdq [(.int .u8 0), (.int .i64 0), (.int .u32 0), (.int .i64 0), (.int .i64 0), (.int .i64 0)] [(some (0, 1), t9), (some (1, 1), t11), (some (3, 1), (.int .i64 (-1))), (some (4, 1), t13), (some (5, 1), t15)] (fun t16 w =>
  nw 33 #[(.int .u8 0), (.int .i64 0), (.int .u32 0), (.int .i64 0), (.int .i64 0), (.int .i64 0)] (fun t5 w =>
  stn 6 t5 t16 (fun w =>
  fd 0 t3 (fun t17 w =>
  ld1 t17 (fun t18 w =>
  s13_p19 K t0 t3 t4 t5 t18 w) w) w) w) w) w) w) w) w) w) w) w) w) w) w) w
def s13_p20_den (K : Value → World → Prop) : (Nat → Value) → World → Prop := denL Tryd.prog [(cd (Tryd.f13.body.getD .skip) [0]), (cd (Tryd.f13.body.getD .skip) [1, 0]), (cd (Tryd.f13.body.getD .skip) [1, 1, 0, 0])] (s13_p19_den K) (fun i => (fun _ _ => False)) (s13_R K)
theorem s13_p20_ok (K : Value → World → Prop) (s : Nat → Value) (w : World) (h : s13_p20 K (s 0) (s 1) w) : Tr (s13_p20_den K s w) :=
  tr_simple (P := Tryd.prog) (codes := [(cd (Tryd.f13.body.getD .skip) [0]), (cd (Tryd.f13.body.getD .skip) [1, 0]), (cd (Tryd.f13.body.getD .skip) [1, 1, 0, 0])]) (N := (fun s w => s13_p19 K (s 0) (s 3) (s 4) (s 5) (s 18) w)) (N' := (s13_p19_den K)) (X := (fun i => (fun _ _ => False))) (X' := (fun i => (fun _ _ => False))) (R := s13_R K) (s := s) (w := w) (p := s13_p20 K (s 0) (s 1) w) (q := s13_p20_den K s w) (fun s w h => s13_p19_ok K s w @h) (fun i => tr_id) (by kernel_rfl) (by kernel_rfl) @h
/-- the call, from the text -/
theorem c13 (t0 t1 : Value) {K : Value → World → Prop} {w : World} (h : s13_p20 K t0 t1 w) : cl Tryd.prog 13 #[t0, t1] K w :=
  calls_of_tr (c := (Tryd.f13.body.getD .skip)) (fn := Tryd.f13) (q := s13_p20_den K (st0 #[t0, t1]) w) Tryd.func13 (by kernel_rfl) (by kernel_rfl) (Nat.le_of_ble_eq_true (by kernel_rfl)) (by kernel_rfl) (by kernel_rfl) (s13_p20_ok K (st0 #[t0, t1]) w @h)

/-! ### function 14 : (*e2e.poollaw.world).real -/
def s14_R (K : Value → World → Prop) (s : Nat → Value) (w : World) : Prop := retv Tryd.prog s Tryd.f14.results.toList (fun vs => K (pack vs) w) w
def s14_p1 (K : Value → World → Prop) (t4 t5 : Value) (w : World) : Prop :=
  ldn 9 t5 (fun t231 w =>
  stn 9 t4 t231 (fun w =>
  ldn 9 t4 (fun r0 _ =>
  K r0 w) w) w) w
def s14_p1_den (K : Value → World → Prop) : (Nat → Value) → World → Prop := denL Tryd.prog [(cd (Tryd.f14.body.getD .skip) [1, 1, 1, 1, 1, 1, 1, 1, 0]), (cd (Tryd.f14.body.getD .skip) [1, 1, 1, 1, 1, 1, 1, 1, 1])] (fun _ _ => False) (fun i => (fun _ _ => False)) (s14_R K)
theorem s14_p1_ok (K : Value → World → Prop) (s : Nat → Value) (w : World) (h : s14_p1 K (s 4) (s 5) w) : Tr (s14_p1_den K s w) :=
  tr_simple (P := Tryd.prog) (codes := [(cd (Tryd.f14.body.getD .skip) [1, 1, 1, 1, 1, 1, 1, 1, 0]), (cd (Tryd.f14.body.getD .skip) [1, 1, 1, 1, 1, 1, 1, 1, 1])]) (N := (fun _ _ => False)) (N' := (fun _ _ => False)) (X := (fun i => (fun _ _ => False))) (X' := (fun i => (fun _ _ => False))) (R := s14_R K) (s := s) (w := w) (p := s14_p1 K (s 4) (s 5) w) (q := s14_p1_den K s w) tr_id (fun i => tr_id) (by kernel_rfl) (by kernel_rfl) @h
def s14_p2_d (K : Value → World → Prop) (J : World → Prop) (t0 t3 t4 t5 : Value) (w0 w : World) : Prop :=
  nck t0 (fun t206 _ =>
  fd 3 t206 (fun t207 _ =>
  Go.Sh.R.qw J (ld1 t207) (fun t208 =>
  fd 1 t3 (fun t209 _ =>
  Go.Sh.R.qw J (ld1 t209) (fun t210 =>
  fd 2 t5 (fun t211 _ =>
  Go.Sh.R.qw J (ld1 t211) (fun t212 =>
  fd 1 t3 (fun t214 _ =>
  Go.Sh.R.qw J (ld1 t214) (fun t215 =>
  fd 2 t5 (fun t216 _ =>
  Go.Sh.R.qw J (ld1 t216) (fun t217 =>
  nck t0 (fun t222 _ =>
  fd 3 t222 (fun t223 _ =>
  cl Tryd.prog 38 #[t0, t215, t217] (fun t218 w =>
  J w ∧
  bdq [(.int .i64 0), (.int .u32 0), (.slice none 0 0)] [(some (0, 1), t210), (some (1, 1), t212), (some (2, 1), t218)] (fun t219 w =>
  J w ∧
  bsq 66 [(.int .i64 0), (.int .u32 0), (.slice none 0 0)] 1 [(some (0, 3), t219)] (fun t220 w =>
  J w ∧
  apq 66 [(.int .i64 0), (.int .u32 0), (.slice none 0 0)] 40 t208 t220 (fun t221 w =>
  st1 t223 t221 (fun w =>
  s14_p1 K t4 t5 w) w) w) w) w) w) w0) w0)) w0)) w0)) w0)) w0)) w0) w0
def s14_p2 (K : Value → World → Prop) (t0 t3 t4 t5 : Value) (w : World) : Prop := ∃ J : World → Prop, J (drw w) ∧ s14_p2_d K J t0 t3 t4 t5 (drw w) (drw w)
def s14_p2_den (K : Value → World → Prop) : (Nat → Value) → World → Prop := denL Tryd.prog [(cd (Tryd.f14.body.getD .skip) [1, 1, 1, 1, 1, 1, 1, 0, 1, 0, 1, 0, 1, 0])] (s14_p1_den K) (fun i => (bif Nat.beq i 1 then (s14_p1_den K) else (fun _ _ => False))) (s14_R K)
theorem s14_p2_ok (K : Value → World → Prop) (s : Nat → Value) (w : World) (h : s14_p2 K (s 0) (s 3) (s 4) (s 5) w) : Tr (s14_p2_den K s w) :=
  Go.Sh.R.tr_drawR (P := Tryd.prog) (ops := (ro (cd (Tryd.f14.body.getD .skip) [1, 1, 1, 1, 1, 1, 1, 0, 1, 0, 1, 0, 1, 0]))) (ms := [0, 0, 2, 6, 14, 0, 32, 0, 128, 0, 0, 1024, 0, 4096, 15872, 32736, 65504, 131070, 262143, 524287, 1048575]) (cs := [0, 1, 2, 3, 4, 5, 6, 7, 8, 9, 10, 11, 12, 13, 18, 19]) (N := (fun s w => s14_p1 K (s 4) (s 5) w)) (N' := (s14_p1_den K)) (s := s) (w := w) (p := fun J => s14_p2_d K J (s 0) (s 3) (s 4) (s 5) (drw w) (drw w)) (q := s14_p2_den K s w) (by kernel_rfl) (by kernel_rfl) (fun s w h => s14_p1_ok K s w @h) (by kernel_rfl) (by kernel_rfl) @h
def s14_p3 (K : Value → World → Prop) (t0 t3 t4 t5 t224 : Value) (w : World) : Prop :=
  ifb t224
  (fd 2 t3 (fun t228 w =>
  ld1 t228 (fun t229 w =>
  cl Tryd.prog 39 #[t0, t229] (fun t230 w =>
  s14_p1 K t4 t5 w) w) w) w)
  (s14_p1 K t4 t5 w)
def s14_p3_den (K : Value → World → Prop) : (Nat → Value) → World → Prop := denL Tryd.prog [(cd (Tryd.f14.body.getD .skip) [1, 1, 1, 1, 1, 1, 1, 0, 1, 0, 1, 0, 1, 1, 1])] (s14_p1_den K) (fun i => (bif Nat.beq i 1 then (s14_p1_den K) else (fun _ _ => False))) (s14_R K)
theorem s14_p3_ok (K : Value → World → Prop) (s : Nat → Value) (w : World) (h : s14_p3 K (s 0) (s 3) (s 4) (s 5) (s 224) w) : Tr (s14_p3_den K s w) :=
  tr_simple (P := Tryd.prog) (codes := [(cd (Tryd.f14.body.getD .skip) [1, 1, 1, 1, 1, 1, 1, 0, 1, 0, 1, 0, 1, 1, 1])]) (N := (fun s w => s14_p1 K (s 4) (s 5) w)) (N' := (s14_p1_den K)) (X := (fun i => (bif Nat.beq i 1 then (fun s w => s14_p1 K (s 4) (s 5) w) else (fun _ _ => False)))) (X' := (fun i => (bif Nat.beq i 1 then (s14_p1_den K) else (fun _ _ => False)))) (R := s14_R K) (s := s) (w := w) (p := s14_p3 K (s 0) (s 3) (s 4) (s 5) (s 224) w) (q := s14_p3_den K s w) (fun s w h => s14_p1_ok K s w @h) (fun i => (tr_bif (fun s w h => s14_p1_ok K s w @h) tr_id)) (by kernel_rfl) (by kernel_rfl) @h
def s14_p4 (K : Value → World → Prop) (t0 t3 t4 t5 t201 : Value) (w : World) : Prop :=
  boI .eql t201 (.int .u8 3) (fun t225 w =>
  ifb t225
  (s14_p3 K t0 t3 t4 t5 t225 w)
  (boI .eql t201 (.int .u8 4) (fun t226 w =>
  s14_p3 K t0 t3 t4 t5 t226 w) w)) w
def s14_p4_den (K : Value → World → Prop) : (Nat → Value) → World → Prop := denL Tryd.prog [(cd (Tryd.f14.body.getD .skip) [1, 1, 1, 1, 1, 1, 1, 0, 1, 0, 1, 0, 1, 1, 0, 0]), (cd (Tryd.f14.body.getD .skip) [1, 1, 1, 1, 1, 1, 1, 0, 1, 0, 1, 0, 1, 1, 0, 1])] (s14_p3_den K) (fun i => (bif Nat.beq i 1 then (s14_p1_den K) else (fun _ _ => False))) (s14_R K)
theorem s14_p4_ok (K : Value → World → Prop) (s : Nat → Value) (w : World) (h : s14_p4 K (s 0) (s 3) (s 4) (s 5) (s 201) w) : Tr (s14_p4_den K s w) :=
  tr_simple (P := Tryd.prog) (codes := [(cd (Tryd.f14.body.getD .skip) [1, 1, 1, 1, 1, 1, 1, 0, 1, 0, 1, 0, 1, 1, 0, 0]), (cd (Tryd.f14.body.getD .skip) [1, 1, 1, 1, 1, 1, 1, 0, 1, 0, 1, 0, 1, 1, 0, 1])]) (N := (fun s w => s14_p3 K (s 0) (s 3) (s 4) (s 5) (s 224) w)) (N' := (s14_p3_den K)) (X := (fun i => (bif Nat.beq i 1 then (fun s w => s14_p1 K (s 4) (s 5) w) else (fun _ _ => False)))) (X' := (fun i => (bif Nat.beq i 1 then (s14_p1_den K) else (fun _ _ => False)))) (R := s14_R K) (s := s) (w := w) (p := s14_p4 K (s 0) (s 3) (s 4) (s 5) (s 201) w) (q := s14_p4_den K s w) (fun s w h => s14_p3_ok K s w @h) (fun i => (tr_bif (fun s w h => s14_p1_ok K s w @h) tr_id)) (by kernel_rfl) (by kernel_rfl) @h
def s14_p5 (K : Value → World → Prop) (t0 t3 t4 t5 t201 t202 : Value) (w : World) : Prop :=
  ifb t202
  (s14_p2 K t0 t3 t4 t5 w)
  (s14_p4 K t0 t3 t4 t5 t201 w)
def s14_p5_den (K : Value → World → Prop) : (Nat → Value) → World → Prop := fun s w => ifb (ev s (.tmp 202)) ((s14_p2_den K) s w) ((s14_p4_den K) s w)
theorem s14_p5_ok (K : Value → World → Prop) (s : Nat → Value) (w : World) (h : s14_p5 K (s 0) (s 3) (s 4) (s 5) (s 201) (s 202) w) : Tr (s14_p5_den K s w) :=
  tr_cond (v := ev s (.tmp 202)) (a := (fun s w => s14_p2 K (s 0) (s 3) (s 4) (s 5) w) s w) (a' := (s14_p2_den K) s w) (b := (fun s w => s14_p4 K (s 0) (s 3) (s 4) (s 5) (s 201) w) s w) (b' := (s14_p4_den K) s w) (p := s14_p5 K (s 0) (s 3) (s 4) (s 5) (s 201) (s 202) w) (q := s14_p5_den K s w) ((fun s w h => s14_p2_ok K s w @h) s w) ((fun s w h => s14_p4_ok K s w @h) s w) (by kernel_rfl) (by kernel_rfl) @h
def s14_p6 (K : Value → World → Prop) (t0 t3 t4 t5 t201 : Value) (w : World) : Prop :=
  boI .eql t201 (.int .u8 2) (fun t203 w =>
  s14_p5 K t0 t3 t4 t5 t201 t203 w) w
def s14_p6_den (K : Value → World → Prop) : (Nat → Value) → World → Prop := denL Tryd.prog [(cd (Tryd.f14.body.getD .skip) [1, 1, 1, 1, 1, 1, 1, 0, 1, 0, 1, 0, 0])] (s14_p5_den K) (fun i => (bif Nat.beq i 1 then (s14_p1_den K) else (fun _ _ => False))) (s14_R K)
theorem s14_p6_ok (K : Value → World → Prop) (s : Nat → Value) (w : World) (h : s14_p6 K (s 0) (s 3) (s 4) (s 5) (s 201) w) : Tr (s14_p6_den K s w) :=
  tr_simple (P := Tryd.prog) (codes := [(cd (Tryd.f14.body.getD .skip) [1, 1, 1, 1, 1, 1, 1, 0, 1, 0, 1, 0, 0])]) (N := (fun s w => s14_p5 K (s 0) (s 3) (s 4) (s 5) (s 201) (s 202) w)) (N' := (s14_p5_den K)) (X := (fun i => (bif Nat.beq i 1 then (fun s w => s14_p1 K (s 4) (s 5) w) else (fun _ _ => False)))) (X' := (fun i => (bif Nat.beq i 1 then (s14_p1_den K) else (fun _ _ => False)))) (R := s14_R K) (s := s) (w := w) (p := s14_p6 K (s 0) (s 3) (s 4) (s 5) (s 201) w) (q := s14_p6_den K s w) (fun s w h => s14_p5_ok K s w @h) (fun i => (tr_bif (fun s w h => s14_p1_ok K s w @h) tr_id)) (by kernel_rfl) (by kernel_rfl) @h
def s14_p7 (K : Value → World → Prop) (t0 t3 t4 t5 : Value) (w : World) : Prop :=
  fd 0 t3 (fun t200 w =>
  ld1 t200 (fun t201 w =>
  s14_p6 K t0 t3 t4 t5 t201 w) w) w
def s14_p7_den (K : Value → World → Prop) : (Nat → Value) → World → Prop := denL Tryd.prog [(cd (Tryd.f14.body.getD .skip) [1, 1, 1, 1, 1, 1, 1, 0, 1, 0, 0])] (s14_p6_den K) (fun i => (fun _ _ => False)) (s14_R K)
theorem s14_p7_ok (K : Value → World → Prop) (s : Nat → Value) (w : World) (h : s14_p7 K (s 0) (s 3) (s 4) (s 5) w) : Tr (s14_p7_den K s w) :=
  tr_simple (P := Tryd.prog) (codes := [(cd (Tryd.f14.body.getD .skip) [1, 1, 1, 1, 1, 1, 1, 0, 1, 0, 0])]) (N := (fun s w => s14_p6 K (s 0) (s 3) (s 4) (s 5) (s 201) w)) (N' := (s14_p6_den K)) (X := (fun i => (fun _ _ => False))) (X' := (fun i => (fun _ _ => False))) (R := s14_R K) (s := s) (w := w) (p := s14_p7 K (s 0) (s 3) (s 4) (s 5) w) (q := s14_p7_den K s w) (fun s w h => s14_p6_ok K s w @h) (fun i => tr_id) (by kernel_rfl) (by kernel_rfl) @h
def s14_p8 (K : Value → World → Prop) (t0 t3 t4 t5 t199 : Value) (w : World) : Prop :=
  ifb t199
  (s14_p7 K t0 t3 t4 t5 w)
  (s14_p1 K t4 t5 w)
def s14_p8_den (K : Value → World → Prop) : (Nat → Value) → World → Prop := fun s w => ifb (ev s (.tmp 199)) ((s14_p7_den K) s w) ((s14_p1_den K) s w)
theorem s14_p8_ok (K : Value → World → Prop) (s : Nat → Value) (w : World) (h : s14_p8 K (s 0) (s 3) (s 4) (s 5) (s 199) w) : Tr (s14_p8_den K s w) :=
  tr_cond (v := ev s (.tmp 199)) (a := (fun s w => s14_p7 K (s 0) (s 3) (s 4) (s 5) w) s w) (a' := (s14_p7_den K) s w) (b := (fun s w => s14_p1 K (s 4) (s 5) w) s w) (b' := (s14_p1_den K) s w) (p := s14_p8 K (s 0) (s 3) (s 4) (s 5) (s 199) w) (q := s14_p8_den K s w) ((fun s w h => s14_p7_ok K s w @h) s w) ((fun s w h => s14_p1_ok K s w @h) s w) (by kernel_rfl) (by kernel_rfl) @h
def s14_p9 (K : Value → World → Prop) (t0 t3 t4 t5 t6 : Value) (w : World) : Prop :=
  nck t0 (fun t184 w =>
  fd 0 t184 (fun t185 w =>
  ld1 t185 (fun t186 w =>
  cl Tryd.prog 31 #[t186] (fun t187 w =>
  boI .sub t187 t6 (fun t189 w =>
  fd 7 t5 (fun t190 w =>
  st1 t190 t189 (fun w =>
  nck t0 (fun t192 w =>
  fd 0 t192 (fun t193 w =>
  ld1 t193 (fun t194 w =>
  cl Tryd.prog 25 #[t194] (fun t195 w =>
  fd 8 t5 (fun t196 w =>
  st1 t196 t195 (fun w =>
  fd 0 t5 (fun t197 w =>
  ld1 t197 (fun t198 w =>
  boI .eql t198 (.int .i64 0) (fun t199 w =>
  s14_p8 K t0 t3 t4 t5 t199 w) w) w) w) w) w) w) w) w) w) w) w) w) w) w) w) w
def s14_p9_den (K : Value → World → Prop) : (Nat → Value) → World → Prop := denL Tryd.prog [(cd (Tryd.f14.body.getD .skip) [1, 1, 1, 1, 1, 0]), (cd (Tryd.f14.body.getD .skip) [1, 1, 1, 1, 1, 1, 0]), (cd (Tryd.f14.body.getD .skip) [1, 1, 1, 1, 1, 1, 1, 0, 0])] (s14_p8_den K) (fun i => (fun _ _ => False)) (s14_R K)
theorem s14_p9_ok (K : Value → World → Prop) (s : Nat → Value) (w : World) (h : s14_p9 K (s 0) (s 3) (s 4) (s 5) (s 6) w) : Tr (s14_p9_den K s w) :=
  tr_simple (P := Tryd.prog) (codes := [(cd (Tryd.f14.body.getD .skip) [1, 1, 1, 1, 1, 0]), (cd (Tryd.f14.body.getD .skip) [1, 1, 1, 1, 1, 1, 0]), (cd (Tryd.f14.body.getD .skip) [1, 1, 1, 1, 1, 1, 1, 0, 0])]) (N := (fun s w => s14_p8 K (s 0) (s 3) (s 4) (s 5) (s 199) w)) (N' := (s14_p8_den K)) (X := (fun i => (fun _ _ => False))) (X' := (fun i => (fun _ _ => False))) (R := s14_R K) (s := s) (w := w) (p := s14_p9 K (s 0) (s 3) (s 4) (s 5) (s 6) w) (q := s14_p9_den K s w) (fun s w h => s14_p8_ok K s w @h) (fun i => tr_id) (by kernel_rfl) (by kernel_rfl) @h
def s14_p10 (K : Value → World → Prop) (t0 t3 t4 t5 t6 t7 : Value) (w : World) : Prop :=
  fd 0 t5 (fun t41 w =>
  ld1 t41 (fun t42 w =>
  boI .eql t42 (.int .i64 0) (fun t43 w =>
  ifb t43
  (nck t0 (fun t47 w =>
  fd 1 t47 (fun t48 w =>
  st1 t48 t7 (fun w =>
  nck t0 (fun t49 w =>
  fd 3 t49 (fun t50 w =>
  st1 t50 (.slice none 0 0) (fun w =>
  s14_p9 K t0 t3 t4 t5 t6 w) w) w) w) w) w) w)
  (s14_p9 K t0 t3 t4 t5 t6 w)) w) w) w
def s14_p10_den (K : Value → World → Prop) : (Nat → Value) → World → Prop := denL Tryd.prog [(cd (Tryd.f14.body.getD .skip) [1, 1, 1, 1, 0, 1, 0, 1, 0, 1, 1, 0]), (cd (Tryd.f14.body.getD .skip) [1, 1, 1, 1, 0, 1, 0, 1, 0, 1, 1, 1])] (s14_p9_den K) (fun i => (bif Nat.beq i 0 then (s14_p9_den K) else (fun _ _ => False))) (s14_R K)
theorem s14_p10_ok (K : Value → World → Prop) (s : Nat → Value) (w : World) (h : s14_p10 K (s 0) (s 3) (s 4) (s 5) (s 6) (s 7) w) : Tr (s14_p10_den K s w) :=
  tr_simple (P := Tryd.prog) (codes := [(cd (Tryd.f14.body.getD .skip) [1, 1, 1, 1, 0, 1, 0, 1, 0, 1, 1, 0]), (cd (Tryd.f14.body.getD .skip) [1, 1, 1, 1, 0, 1, 0, 1, 0, 1, 1, 1])]) (N := (fun s w => s14_p9 K (s 0) (s 3) (s 4) (s 5) (s 6) w)) (N' := (s14_p9_den K)) (X := (fun i => (bif Nat.beq i 0 then (fun s w => s14_p9 K (s 0) (s 3) (s 4) (s 5) (s 6) w) else (fun _ _ => False)))) (X' := (fun i => (bif Nat.beq i 0 then (s14_p9_den K) else (fun _ _ => False)))) (R := s14_R K) (s := s) (w := w) (p := s14_p10 K (s 0) (s 3) (s 4) (s 5) (s 6) (s 7) w) (q := s14_p10_den K s w) (fun s w h => s14_p9_ok K s w @h) (fun i => (tr_bif (fun s w h => s14_p9_ok K s w @h) tr_id)) (by kernel_rfl) (by kernel_rfl) @h
def s14_p11_d (K : Value → World → Prop) (t0 t3 t4 t5 t6 : Value) (w0 w : World) : Prop :=
  nck t0 (fun t27 _ =>
  fd 0 t27 (fun t28 _ =>
  ld1 t28 (fun t29 _ =>
  fd 4 t3 (fun t30 _ =>
  ld1 t30 (fun t31 _ =>
  cvi .u32 t31 (fun t32 _ =>
  fd 5 t3 (fun t33 _ =>
  ld1 t33 (fun t34 _ =>
  cvi .u32 t34 (fun t35 _ =>
  bdq [(.int .u32 0), (.int .u32 0)] [(some (0, 1), t32), (some (1, 1), t35)] (fun t36 _ =>
  fd 0 t5 (fun t40 _ =>
  cl Tryd.prog 29 #[t29, t36] (fun t37 w =>
  (exq t37 0 (fun t38 w =>
  (exq t37 1 (fun t39 w =>
  st1 t40 t39 (fun w =>
  s14_p10 K t0 t3 t4 t5 t6 t38 w) w) w) ∧
  (exq t37 1 (fun t39_2 w =>
  st1 t40 t39_2 (fun w =>
  s14_p10 K t0 t3 t4 t5 t6 t38 w) w) w)) w) ∧
  (exq t37 1 (fun t39_3 w =>
  exq t37 0 (fun t38_2 w =>
  st1 t40 t39_3 (fun w =>
  s14_p10 K t0 t3 t4 t5 t6 t38_2 w) w) w) w)) w) w0) w0) w0) w0) w0) w0) w0) w0) w0) w0) w0
def s14_p11 (K : Value → World → Prop) (t0 t3 t4 t5 t6 : Value) (w : World) : Prop := s14_p11_d K t0 t3 t4 t5 t6 (drw w) (drw w)
def s14_p11_den (K : Value → World → Prop) : (Nat → Value) → World → Prop := denL Tryd.prog [(cd (Tryd.f14.body.getD .skip) [1, 1, 1, 1, 0, 1, 0, 1, 0, 1, 0])] (s14_p10_den K) (fun i => (bif Nat.beq i 0 then (s14_p9_den K) else (fun _ _ => False))) (s14_R K)
theorem s14_p11_ok (K : Value → World → Prop) (s : Nat → Value) (w : World) (h : s14_p11 K (s 0) (s 3) (s 4) (s 5) (s 6) w) : Tr (s14_p11_den K s w) :=
  tr_draw (P := Tryd.prog) (ops := (ro (cd (Tryd.f14.body.getD .skip) [1, 1, 1, 1, 0, 1, 0, 1, 0, 1, 0]))) (ms := [0, 1, 3, 7, 0, 16, 48, 0, 128, 384, 1008, 2047, 4095, 8191, 8191, 16383, 65535, 131071]) (cs := [0, 1, 2, 3, 4, 5, 6, 7, 8, 9, 10, 16]) (N := (fun s w => s14_p10 K (s 0) (s 3) (s 4) (s 5) (s 6) (s 7) w)) (N' := (s14_p10_den K)) (s := s) (w := w) (p := s14_p11 K (s 0) (s 3) (s 4) (s 5) (s 6) w) (q := s14_p11_den K s w) (by kernel_rfl) (by kernel_rfl) (fun s w h => s14_p10_ok K s w @h) (by kernel_rfl) (by kernel_rfl) @h
def s14_p12 (K : Value → World → Prop) (t0 t3 t4 t5 t6 : Value) (w : World) : Prop :=
  s14_p11 K t0 t3 t4 t5 t6 w
def s14_p12_den (K : Value → World → Prop) : (Nat → Value) → World → Prop := denL Tryd.prog [(cd (Tryd.f14.body.getD .skip) [1, 1, 1, 1, 0, 1, 0, 1, 0, 0])] (s14_p11_den K) (fun i => (bif Nat.beq i 0 then (s14_p9_den K) else (fun _ _ => False))) (s14_R K)
theorem s14_p12_ok (K : Value → World → Prop) (s : Nat → Value) (w : World) (h : s14_p12 K (s 0) (s 3) (s 4) (s 5) (s 6) w) : Tr (s14_p12_den K s w) :=
  tr_simple (P := Tryd.prog) (codes := [(cd (Tryd.f14.body.getD .skip) [1, 1, 1, 1, 0, 1, 0, 1, 0, 0])]) (N := (fun s w => s14_p11 K (s 0) (s 3) (s 4) (s 5) (s 6) w)) (N' := (s14_p11_den K)) (X := (fun i => (bif Nat.beq i 0 then (fun s w => s14_p9 K (s 0) (s 3) (s 4) (s 5) (s 6) w) else (fun _ _ => False)))) (X' := (fun i => (bif Nat.beq i 0 then (s14_p9_den K) else (fun _ _ => False)))) (R := s14_R K) (s := s) (w := w) (p := s14_p12 K (s 0) (s 3) (s 4) (s 5) (s 6) w) (q := s14_p12_den K s w) (fun s w h => s14_p11_ok K s w @h) (fun i => (tr_bif (fun s w h => s14_p9_ok K s w @h) tr_id)) (by kernel_rfl) (by kernel_rfl) @h
def s14_p13_d (K : Value → World → Prop) (t0 t3 t4 t5 t6 : Value) (w0 w : World) : Prop :=
  nck t0 (fun t55 _ =>
  fd 1 t55 (fun t56 _ =>
  ld1 t56 (fun t57 _ =>
  fd 4 t3 (fun t58 _ =>
  ld1 t58 (fun t59 _ =>
  fd 5 t3 (fun t60 _ =>
  ld1 t60 (fun t61 _ =>
  fd 1 t5 (fun t65 _ =>
  fd 0 t5 (fun t66 _ =>
  cl Tryd.prog 32 #[t57, t59, t61] (fun t62 w =>
  (exq t62 0 (fun t63 w =>
  (exq t62 1 (fun t64 w =>
  st1 t65 t63 (fun w =>
  st1 t66 t64 (fun w =>
  s14_p9 K t0 t3 t4 t5 t6 w) w) w) w) ∧
  (st1 t65 t63 (fun w =>
  exq t62 1 (fun t64_2 w =>
  st1 t66 t64_2 (fun w =>
  s14_p9 K t0 t3 t4 t5 t6 w) w) w) w)) w) ∧
  (exq t62 1 (fun t64_3 w =>
  exq t62 0 (fun t63_2 w =>
  st1 t65 t63_2 (fun w =>
  st1 t66 t64_3 (fun w =>
  s14_p9 K t0 t3 t4 t5 t6 w) w) w) w) w)) w) w0) w0) w0) w0) w0) w0) w0) w0) w0
def s14_p13 (K : Value → World → Prop) (t0 t3 t4 t5 t6 : Value) (w : World) : Prop := s14_p13_d K t0 t3 t4 t5 t6 (drw w) (drw w)
def s14_p13_den (K : Value → World → Prop) : (Nat → Value) → World → Prop := denL Tryd.prog [(cd (Tryd.f14.body.getD .skip) [1, 1, 1, 1, 0, 1, 0, 1, 1, 1, 0])] (s14_p9_den K) (fun i => (bif Nat.beq i 0 then (s14_p9_den K) else (fun _ _ => False))) (s14_R K)
theorem s14_p13_ok (K : Value → World → Prop) (s : Nat → Value) (w : World) (h : s14_p13 K (s 0) (s 3) (s 4) (s 5) (s 6) w) : Tr (s14_p13_den K s w) :=
  tr_draw (P := Tryd.prog) (ops := (ro (cd (Tryd.f14.body.getD .skip) [1, 1, 1, 1, 0, 1, 0, 1, 1, 1, 0]))) (ms := [0, 1, 3, 7, 0, 16, 0, 64, 255, 511, 1023, 1023, 2047, 6143, 16383, 32767]) (cs := [0, 1, 2, 3, 4, 5, 6, 7, 12, 14]) (N := (fun s w => s14_p9 K (s 0) (s 3) (s 4) (s 5) (s 6) w)) (N' := (s14_p9_den K)) (s := s) (w := w) (p := s14_p13 K (s 0) (s 3) (s 4) (s 5) (s 6) w) (q := s14_p13_den K s w) (by kernel_rfl) (by kernel_rfl) (fun s w h => s14_p9_ok K s w @h) (by kernel_rfl) (by kernel_rfl) @h
def s14_p14_d (K : Value → World → Prop) (t0 t3 t4 t5 t6 : Value) (w0 w : World) : Prop :=
  nck t0 (fun t71 _ =>
  fd 1 t71 (fun t72 _ =>
  ld1 t72 (fun t73 _ =>
  fd 1 t3 (fun t74 _ =>
  ld1 t74 (fun t75 _ =>
  fd 2 t5 (fun t79 _ =>
  fd 0 t5 (fun t80 _ =>
  cl Tryd.prog 33 #[t73, t75] (fun t76 w =>
  (exq t76 0 (fun t77 w =>
  (exq t76 1 (fun t78 w =>
  st1 t79 t77 (fun w =>
  st1 t80 t78 (fun w =>
  s14_p9 K t0 t3 t4 t5 t6 w) w) w) w) ∧
  (st1 t79 t77 (fun w =>
  exq t76 1 (fun t78_2 w =>
  st1 t80 t78_2 (fun w =>
  s14_p9 K t0 t3 t4 t5 t6 w) w) w) w)) w) ∧
  (exq t76 1 (fun t78_3 w =>
  exq t76 0 (fun t77_2 w =>
  st1 t79 t77_2 (fun w =>
  st1 t80 t78_3 (fun w =>
  s14_p9 K t0 t3 t4 t5 t6 w) w) w) w) w)) w) w0) w0) w0) w0) w0) w0) w0
def s14_p14 (K : Value → World → Prop) (t0 t3 t4 t5 t6 : Value) (w : World) : Prop := s14_p14_d K t0 t3 t4 t5 t6 (drw w) (drw w)
def s14_p14_den (K : Value → World → Prop) : (Nat → Value) → World → Prop := denL Tryd.prog [(cd (Tryd.f14.body.getD .skip) [1, 1, 1, 1, 0, 1, 0, 1, 1, 1, 1, 1, 0])] (s14_p9_den K) (fun i => (bif Nat.beq i 0 then (s14_p9_den K) else (fun _ _ => False))) (s14_R K)
theorem s14_p14_ok (K : Value → World → Prop) (s : Nat → Value) (w : World) (h : s14_p14 K (s 0) (s 3) (s 4) (s 5) (s 6) w) : Tr (s14_p14_den K s w) :=
  tr_draw (P := Tryd.prog) (ops := (ro (cd (Tryd.f14.body.getD .skip) [1, 1, 1, 1, 0, 1, 0, 1, 1, 1, 1, 1, 0]))) (ms := [0, 1, 3, 7, 0, 16, 63, 127, 255, 255, 511, 1535, 4095, 8191]) (cs := [0, 1, 2, 3, 4, 5, 10, 12]) (N := (fun s w => s14_p9 K (s 0) (s 3) (s 4) (s 5) (s 6) w)) (N' := (s14_p9_den K)) (s := s) (w := w) (p := s14_p14 K (s 0) (s 3) (s 4) (s 5) (s 6) w) (q := s14_p14_den K s w) (by kernel_rfl) (by kernel_rfl) (fun s w h => s14_p9_ok K s w @h) (by kernel_rfl) (by kernel_rfl) @h
def s14_p15_d (K : Value → World → Prop) (t0 t3 t4 t5 t6 : Value) (w0 w : World) : Prop :=
  nck t0 (fun t84 _ =>
  fd 1 t84 (fun t85 _ =>
  ld1 t85 (fun t86 _ =>
  fd 1 t3 (fun t87 _ =>
  ld1 t87 (fun t88 _ =>
  fd 2 t3 (fun t89 _ =>
  ld1 t89 (fun t90 _ =>
  fd 0 t5 (fun t92 _ =>
  cl Tryd.prog 34 #[t86, t88, t90] (fun t91 w =>
  st1 t92 t91 (fun w =>
  s14_p9 K t0 t3 t4 t5 t6 w) w) w) w0) w0) w0) w0) w0) w0) w0) w0
def s14_p15 (K : Value → World → Prop) (t0 t3 t4 t5 t6 : Value) (w : World) : Prop := s14_p15_d K t0 t3 t4 t5 t6 (drw w) (drw w)
def s14_p15_den (K : Value → World → Prop) : (Nat → Value) → World → Prop := denL Tryd.prog [(cd (Tryd.f14.body.getD .skip) [1, 1, 1, 1, 0, 1, 0, 1, 1, 1, 1, 1, 1, 1, 0])] (s14_p9_den K) (fun i => (bif Nat.beq i 0 then (s14_p9_den K) else (fun _ _ => False))) (s14_R K)
theorem s14_p15_ok (K : Value → World → Prop) (s : Nat → Value) (w : World) (h : s14_p15 K (s 0) (s 3) (s 4) (s 5) (s 6) w) : Tr (s14_p15_den K s w) :=
  tr_draw (P := Tryd.prog) (ops := (ro (cd (Tryd.f14.body.getD .skip) [1, 1, 1, 1, 0, 1, 0, 1, 1, 1, 1, 1, 1, 1, 0]))) (ms := [0, 1, 3, 7, 0, 16, 0, 64, 255, 511, 1023]) (cs := [0, 1, 2, 3, 4, 5, 6, 7, 9]) (N := (fun s w => s14_p9 K (s 0) (s 3) (s 4) (s 5) (s 6) w)) (N' := (s14_p9_den K)) (s := s) (w := w) (p := s14_p15 K (s 0) (s 3) (s 4) (s 5) (s 6) w) (q := s14_p15_den K s w) (by kernel_rfl) (by kernel_rfl) (fun s w h => s14_p9_ok K s w @h) (by kernel_rfl) (by kernel_rfl) @h
def s14_p16_d (K : Value → World → Prop) (t0 t3 t4 t5 t6 : Value) (w0 w : World) : Prop :=
  nck t0 (fun t96 _ =>
  fd 1 t96 (fun t97 _ =>
  ld1 t97 (fun t98 _ =>
  fd 2 t3 (fun t99 _ =>
  ld1 t99 (fun t100 _ =>
  fd 0 t5 (fun t102 _ =>
  cl Tryd.prog 35 #[t98, t100] (fun t101 w =>
  st1 t102 t101 (fun w =>
  s14_p9 K t0 t3 t4 t5 t6 w) w) w) w0) w0) w0) w0) w0) w0
def s14_p16 (K : Value → World → Prop) (t0 t3 t4 t5 t6 : Value) (w : World) : Prop := s14_p16_d K t0 t3 t4 t5 t6 (drw w) (drw w)
def s14_p16_den (K : Value → World → Prop) : (Nat → Value) → World → Prop := denL Tryd.prog [(cd (Tryd.f14.body.getD .skip) [1, 1, 1, 1, 0, 1, 0, 1, 1, 1, 1, 1, 1, 1, 1, 1, 0])] (s14_p9_den K) (fun i => (bif Nat.beq i 0 then (s14_p9_den K) else (fun _ _ => False))) (s14_R K)
theorem s14_p16_ok (K : Value → World → Prop) (s : Nat → Value) (w : World) (h : s14_p16 K (s 0) (s 3) (s 4) (s 5) (s 6) w) : Tr (s14_p16_den K s w) :=
  tr_draw (P := Tryd.prog) (ops := (ro (cd (Tryd.f14.body.getD .skip) [1, 1, 1, 1, 0, 1, 0, 1, 1, 1, 1, 1, 1, 1, 1, 1, 0]))) (ms := [0, 1, 3, 7, 0, 16, 63, 127, 255]) (cs := [0, 1, 2, 3, 4, 5, 7]) (N := (fun s w => s14_p9 K (s 0) (s 3) (s 4) (s 5) (s 6) w)) (N' := (s14_p9_den K)) (s := s) (w := w) (p := s14_p16 K (s 0) (s 3) (s 4) (s 5) (s 6) w) (q := s14_p16_den K s w) (by kernel_rfl) (by kernel_rfl) (fun s w h => s14_p9_ok K s w @h) (by kernel_rfl) (by kernel_rfl) @h
def s14_p17_d (K : Value → World → Prop) (t0 t3 t4 t5 t6 : Value) (w0 w : World) : Prop :=
  nck t0 (fun t107 _ =>
  fd 1 t107 (fun t108 _ =>
  ld1 t108 (fun t109 _ =>
  fd 2 t3 (fun t110 _ =>
  ld1 t110 (fun t111 _ =>
  fd 1 t5 (fun t115 _ =>
  fd 0 t5 (fun t116 _ =>
  cl Tryd.prog 36 #[t109, t111] (fun t112 w =>
  (exq t112 0 (fun t113 w =>
  (exq t112 1 (fun t114 w =>
  st1 t115 t113 (fun w =>
  st1 t116 t114 (fun w =>
  s14_p9 K t0 t3 t4 t5 t6 w) w) w) w) ∧
  (st1 t115 t113 (fun w =>
  exq t112 1 (fun t114_2 w =>
  st1 t116 t114_2 (fun w =>
  s14_p9 K t0 t3 t4 t5 t6 w) w) w) w)) w) ∧
  (exq t112 1 (fun t114_3 w =>
  exq t112 0 (fun t113_2 w =>
  st1 t115 t113_2 (fun w =>
  st1 t116 t114_3 (fun w =>
  s14_p9 K t0 t3 t4 t5 t6 w) w) w) w) w)) w) w0) w0) w0) w0) w0) w0) w0
def s14_p17 (K : Value → World → Prop) (t0 t3 t4 t5 t6 : Value) (w : World) : Prop := s14_p17_d K t0 t3 t4 t5 t6 (drw w) (drw w)
def s14_p17_den (K : Value → World → Prop) : (Nat → Value) → World → Prop := denL Tryd.prog [(cd (Tryd.f14.body.getD .skip) [1, 1, 1, 1, 0, 1, 0, 1, 1, 1, 1, 1, 1, 1, 1, 1, 1, 1, 0])] (s14_p9_den K) (fun i => (bif Nat.beq i 0 then (s14_p9_den K) else (fun _ _ => False))) (s14_R K)
theorem s14_p17_ok (K : Value → World → Prop) (s : Nat → Value) (w : World) (h : s14_p17 K (s 0) (s 3) (s 4) (s 5) (s 6) w) : Tr (s14_p17_den K s w) :=
  tr_draw (P := Tryd.prog) (ops := (ro (cd (Tryd.f14.body.getD .skip) [1, 1, 1, 1, 0, 1, 0, 1, 1, 1, 1, 1, 1, 1, 1, 1, 1, 1, 0]))) (ms := [0, 1, 3, 7, 0, 16, 63, 127, 255, 255, 511, 1535, 4095, 8191]) (cs := [0, 1, 2, 3, 4, 5, 10, 12]) (N := (fun s w => s14_p9 K (s 0) (s 3) (s 4) (s 5) (s 6) w)) (N' := (s14_p9_den K)) (s := s) (w := w) (p := s14_p17 K (s 0) (s 3) (s 4) (s 5) (s 6) w) (q := s14_p17_den K s w) (by kernel_rfl) (by kernel_rfl) (fun s w h => s14_p9_ok K s w @h) (by kernel_rfl) (by kernel_rfl) @h
def s14_p18_d (K : Value → World → Prop) (t0 t3 t4 t5 t6 : Value) (w0 w : World) : Prop :=
  nck t0 (fun t121 _ =>
  fd 1 t121 (fun t122 _ =>
  ld1 t122 (fun t123 _ =>
  fd 1 t3 (fun t124 _ =>
  ld1 t124 (fun t125 _ =>
  fd 3 t5 (fun t129 _ =>
  fd 0 t5 (fun t130 _ =>
  cl Tryd.prog 37 #[t123, t125] (fun t126 w =>
  (exq t126 0 (fun t127 w =>
  (exq t126 1 (fun t128 w =>
  stn 4 t129 t127 (fun w =>
  st1 t130 t128 (fun w =>
  s14_p9 K t0 t3 t4 t5 t6 w) w) w) w) ∧
  (stn 4 t129 t127 (fun w =>
  exq t126 1 (fun t128_2 w =>
  st1 t130 t128_2 (fun w =>
  s14_p9 K t0 t3 t4 t5 t6 w) w) w) w)) w) ∧
  (exq t126 1 (fun t128_3 w =>
  exq t126 0 (fun t127_2 w =>
  stn 4 t129 t127_2 (fun w =>
  st1 t130 t128_3 (fun w =>
  s14_p9 K t0 t3 t4 t5 t6 w) w) w) w) w)) w) w0) w0) w0) w0) w0) w0) w0
def s14_p18 (K : Value → World → Prop) (t0 t3 t4 t5 t6 : Value) (w : World) : Prop := s14_p18_d K t0 t3 t4 t5 t6 (drw w) (drw w)
def s14_p18_den (K : Value → World → Prop) : (Nat → Value) → World → Prop := denL Tryd.prog [(cd (Tryd.f14.body.getD .skip) [1, 1, 1, 1, 0, 1, 0, 1, 1, 1, 1, 1, 1, 1, 1, 1, 1, 1, 1, 1, 0])] (s14_p9_den K) (fun i => (bif Nat.beq i 0 then (s14_p9_den K) else (fun _ _ => False))) (s14_R K)
theorem s14_p18_ok (K : Value → World → Prop) (s : Nat → Value) (w : World) (h : s14_p18 K (s 0) (s 3) (s 4) (s 5) (s 6) w) : Tr (s14_p18_den K s w) :=
  tr_draw (P := Tryd.prog) (ops := (ro (cd (Tryd.f14.body.getD .skip) [1, 1, 1, 1, 0, 1, 0, 1, 1, 1, 1, 1, 1, 1, 1, 1, 1, 1, 1, 1, 0]))) (ms := [0, 1, 3, 7, 0, 16, 63, 127, 255, 255, 511, 1535, 4095, 8191]) (cs := [0, 1, 2, 3, 4, 5, 10, 12]) (N := (fun s w => s14_p9 K (s 0) (s 3) (s 4) (s 5) (s 6) w)) (N' := (s14_p9_den K)) (s := s) (w := w) (p := s14_p18 K (s 0) (s 3) (s 4) (s 5) (s 6) w) (q := s14_p18_den K s w) (by kernel_rfl) (by kernel_rfl) (fun s w h => s14_p9_ok K s w @h) (by kernel_rfl) (by kernel_rfl) @h
def s14_p19_d (K : Value → World → Prop) (t0 t3 t4 t5 t6 t8 : Value) (w0 w : World) : Prop :=
  nck t8 (fun t161 _ =>
  fd 2 t161 (fun t162 _ =>
  ld1 t162 (fun t163 _ =>
  fd 5 t3 (fun t164 _ =>
  ld1 t164 (fun t165 _ =>
  fd 4 t3 (fun t166 _ =>
  ld1 t166 (fun t167 _ =>
  cvi .u64 t167 (fun t168 _ =>
  ixs 1 t163 t165 (fun t169 _ =>
  st1 t169 t168 (fun w =>
  s14_p9 K t0 t3 t4 t5 t6 w) w) w0) w0) w0) w0) w0) w0) w0) w0) w0
def s14_p19 (K : Value → World → Prop) (t0 t3 t4 t5 t6 t8 : Value) (w : World) : Prop := s14_p19_d K t0 t3 t4 t5 t6 t8 (drw w) (drw w)
def s14_p19_den (K : Value → World → Prop) : (Nat → Value) → World → Prop := denL Tryd.prog [(cd (Tryd.f14.body.getD .skip) [1, 1, 1, 1, 0, 1, 0, 1, 1, 1, 1, 1, 1, 1, 1, 1, 1, 1, 1, 1, 1, 1, 0, 1, 0, 1, 1])] (s14_p9_den K) (fun i => (bif Nat.beq i 0 then (s14_p9_den K) else (fun _ _ => False))) (s14_R K)
theorem s14_p19_ok (K : Value → World → Prop) (s : Nat → Value) (w : World) (h : s14_p19 K (s 0) (s 3) (s 4) (s 5) (s 6) (s 8) w) : Tr (s14_p19_den K s w) :=
  tr_draw (P := Tryd.prog) (ops := (ro (cd (Tryd.f14.body.getD .skip) [1, 1, 1, 1, 0, 1, 0, 1, 1, 1, 1, 1, 1, 1, 1, 1, 1, 1, 1, 1, 1, 1, 0, 1, 0, 1, 1]))) (ms := [0, 1, 3, 7, 0, 16, 0, 64, 192, 511, 1023]) (cs := [0, 1, 2, 3, 4, 5, 6, 7, 8, 9]) (N := (fun s w => s14_p9 K (s 0) (s 3) (s 4) (s 5) (s 6) w)) (N' := (s14_p9_den K)) (s := s) (w := w) (p := s14_p19 K (s 0) (s 3) (s 4) (s 5) (s 6) (s 8) w) (q := s14_p19_den K s w) (by kernel_rfl) (by kernel_rfl) (fun s w h => s14_p9_ok K s w @h) (by kernel_rfl) (by kernel_rfl) @h
def s14_p20_d (K : Value → World → Prop) (t0 t3 t4 t5 t6 t8 : Value) (w0 w : World) : Prop :=
  nck t0 (fun t144 _ =>
  fd 0 t144 (fun t145 _ =>
  ld1 t145 (fun t146 _ =>
  nck t8 (fun t148 _ =>
  fd 1 t148 (fun t149 _ =>
  ld1 t149 (fun t150 _ =>
  fd 5 t3 (fun t151 _ =>
  ld1 t151 (fun t152 _ =>
  cvi .u32 t152 (fun t153 _ =>
  boI .add t150 t153 (fun t154 _ =>
  fd 4 t3 (fun t155 _ =>
  ld1 t155 (fun t156 _ =>
  cvi .u64 t156 (fun t157 _ =>
  fd 0 t5 (fun t159 _ =>
  cl Tryd.prog 28 #[t146, t154, t157] (fun t158 w =>
  st1 t159 t158 (fun w =>
  s14_p19 K t0 t3 t4 t5 t6 t8 w) w) w) w0) w0) w0) w0) w0) w0) w0) w0) w0) w0) w0) w0) w0) w0
def s14_p20 (K : Value → World → Prop) (t0 t3 t4 t5 t6 t8 : Value) (w : World) : Prop := s14_p20_d K t0 t3 t4 t5 t6 t8 (drw w) (drw w)
def s14_p20_den (K : Value → World → Prop) : (Nat → Value) → World → Prop := denL Tryd.prog [(cd (Tryd.f14.body.getD .skip) [1, 1, 1, 1, 0, 1, 0, 1, 1, 1, 1, 1, 1, 1, 1, 1, 1, 1, 1, 1, 1, 1, 0, 1, 0, 1, 0])] (s14_p19_den K) (fun i => (bif Nat.beq i 0 then (s14_p9_den K) else (fun _ _ => False))) (s14_R K)
theorem s14_p20_ok (K : Value → World → Prop) (s : Nat → Value) (w : World) (h : s14_p20 K (s 0) (s 3) (s 4) (s 5) (s 6) (s 8) w) : Tr (s14_p20_den K s w) :=
  tr_draw (P := Tryd.prog) (ops := (ro (cd (Tryd.f14.body.getD .skip) [1, 1, 1, 1, 0, 1, 0, 1, 1, 1, 1, 1, 1, 1, 1, 1, 1, 1, 1, 1, 1, 1, 0, 1, 0, 1, 0]))) (ms := [0, 1, 3, 7, 0, 16, 48, 112, 0, 256, 768, 2032, 0, 4096, 12288, 32767, 65535, 131071]) (cs := [0, 1, 2, 3, 4, 5, 6, 7, 8, 9, 10, 11, 12, 13, 14, 16]) (N := (fun s w => s14_p19 K (s 0) (s 3) (s 4) (s 5) (s 6) (s 8) w)) (N' := (s14_p19_den K)) (s := s) (w := w) (p := s14_p20 K (s 0) (s 3) (s 4) (s 5) (s 6) (s 8) w) (q := s14_p20_den K s w) (by kernel_rfl) (by kernel_rfl) (fun s w h => s14_p19_ok K s w @h) (by kernel_rfl) (by kernel_rfl) @h
def s14_p21_d (K : Value → World → Prop) (t0 t3 t4 t5 t6 : Value) (w0 w : World) : Prop :=
  nck t0 (fun t137 _ =>
  fd 3 t137 (fun t138 _ =>
  ld1 t138 (fun t139 _ =>
  fd 3 t3 (fun t140 _ =>
  ld1 t140 (fun t141 _ =>
  ixs 3 t139 t141 (fun t142 _ =>
  s14_p20 K t0 t3 t4 t5 t6 t142 w) w0) w0) w0) w0) w0) w0
def s14_p21 (K : Value → World → Prop) (t0 t3 t4 t5 t6 : Value) (w : World) : Prop := s14_p21_d K t0 t3 t4 t5 t6 (drw w) (drw w)
def s14_p21_den (K : Value → World → Prop) : (Nat → Value) → World → Prop := denL Tryd.prog [(cd (Tryd.f14.body.getD .skip) [1, 1, 1, 1, 0, 1, 0, 1, 1, 1, 1, 1, 1, 1, 1, 1, 1, 1, 1, 1, 1, 1, 0, 1, 0, 0])] (s14_p20_den K) (fun i => (bif Nat.beq i 0 then (s14_p9_den K) else (fun _ _ => False))) (s14_R K)
theorem s14_p21_ok (K : Value → World → Prop) (s : Nat → Value) (w : World) (h : s14_p21 K (s 0) (s 3) (s 4) (s 5) (s 6) w) : Tr (s14_p21_den K s w) :=
  tr_draw (P := Tryd.prog) (ops := (ro (cd (Tryd.f14.body.getD .skip) [1, 1, 1, 1, 0, 1, 0, 1, 1, 1, 1, 1, 1, 1, 1, 1, 1, 1, 1, 1, 1, 1, 0, 1, 0, 0]))) (ms := [0, 1, 3, 7, 0, 16, 63, 127]) (cs := [0, 1, 2, 3, 4, 5, 6, 7]) (N := (fun s w => s14_p20 K (s 0) (s 3) (s 4) (s 5) (s 6) (s 8) w)) (N' := (s14_p20_den K)) (s := s) (w := w) (p := s14_p21 K (s 0) (s 3) (s 4) (s 5) (s 6) w) (q := s14_p21_den K s w) (by kernel_rfl) (by kernel_rfl) (fun s w h => s14_p20_ok K s w @h) (by kernel_rfl) (by kernel_rfl) @h
def s14_p22 (K : Value → World → Prop) (t0 t3 t4 t5 t6 t135 : Value) (w : World) : Prop :=
  ifb t135
  (s14_p21 K t0 t3 t4 t5 t6 w)
  (s14_p9 K t0 t3 t4 t5 t6 w)
def s14_p22_den (K : Value → World → Prop) : (Nat → Value) → World → Prop := fun s w => ifb (ev s (.tmp 135)) ((s14_p21_den K) s w) ((s14_p9_den K) s w)
theorem s14_p22_ok (K : Value → World → Prop) (s : Nat → Value) (w : World) (h : s14_p22 K (s 0) (s 3) (s 4) (s 5) (s 6) (s 135) w) : Tr (s14_p22_den K s w) :=
  tr_cond (v := ev s (.tmp 135)) (a := (fun s w => s14_p21 K (s 0) (s 3) (s 4) (s 5) (s 6) w) s w) (a' := (s14_p21_den K) s w) (b := (fun s w => s14_p9 K (s 0) (s 3) (s 4) (s 5) (s 6) w) s w) (b' := (s14_p9_den K) s w) (p := s14_p22 K (s 0) (s 3) (s 4) (s 5) (s 6) (s 135) w) (q := s14_p22_den K s w) ((fun s w h => s14_p21_ok K s w @h) s w) ((fun s w h => s14_p9_ok K s w @h) s w) (by kernel_rfl) (by kernel_rfl) @h
def s14_p23 (K : Value → World → Prop) (t0 t3 t4 t5 t6 : Value) (w : World) : Prop :=
  fd 3 t3 (fun t133 w =>
  ld1 t133 (fun t134 w =>
  boI .geq t134 (.int .i64 0) (fun t135 w =>
  s14_p22 K t0 t3 t4 t5 t6 t135 w) w) w) w
def s14_p23_den (K : Value → World → Prop) : (Nat → Value) → World → Prop := denL Tryd.prog [(cd (Tryd.f14.body.getD .skip) [1, 1, 1, 1, 0, 1, 0, 1, 1, 1, 1, 1, 1, 1, 1, 1, 1, 1, 1, 1, 1, 1, 0, 0])] (s14_p22_den K) (fun i => (bif Nat.beq i 0 then (s14_p9_den K) else (fun _ _ => False))) (s14_R K)
theorem s14_p23_ok (K : Value → World → Prop) (s : Nat → Value) (w : World) (h : s14_p23 K (s 0) (s 3) (s 4) (s 5) (s 6) w) : Tr (s14_p23_den K s w) :=
  tr_simple (P := Tryd.prog) (codes := [(cd (Tryd.f14.body.getD .skip) [1, 1, 1, 1, 0, 1, 0, 1, 1, 1, 1, 1, 1, 1, 1, 1, 1, 1, 1, 1, 1, 1, 0, 0])]) (N := (fun s w => s14_p22 K (s 0) (s 3) (s 4) (s 5) (s 6) (s 135) w)) (N' := (s14_p22_den K)) (X := (fun i => (bif Nat.beq i 0 then (fun s w => s14_p9 K (s 0) (s 3) (s 4) (s 5) (s 6) w) else (fun _ _ => False)))) (X' := (fun i => (bif Nat.beq i 0 then (s14_p9_den K) else (fun _ _ => False)))) (R := s14_R K) (s := s) (w := w) (p := s14_p23 K (s 0) (s 3) (s 4) (s 5) (s 6) w) (q := s14_p23_den K s w) (fun s w h => s14_p22_ok K s w @h) (fun i => (tr_bif (fun s w h => s14_p9_ok K s w @h) tr_id)) (by kernel_rfl) (by kernel_rfl) @h
def s14_p24_d (K : Value → World → Prop) (t0 t3 t4 t5 t6 : Value) (w0 w : World) : Prop :=
  nck t0 (fun t173 _ =>
  fd 0 t173 (fun t174 _ =>
  ld1 t174 (fun t175 _ =>
  fd 2 t3 (fun t176 _ =>
  ld1 t176 (fun t177 _ =>
  fd 4 t3 (fun t178 _ =>
  ld1 t178 (fun t179 _ =>
  cvi .u64 t179 (fun t180 _ =>
  fd 0 t5 (fun t182 _ =>
  cl Tryd.prog 28 #[t175, t177, t180] (fun t181 w =>
  st1 t182 t181 (fun w =>
  s14_p9 K t0 t3 t4 t5 t6 w) w) w) w0) w0) w0) w0) w0) w0) w0) w0) w0
def s14_p24 (K : Value → World → Prop) (t0 t3 t4 t5 t6 : Value) (w : World) : Prop := s14_p24_d K t0 t3 t4 t5 t6 (drw w) (drw w)
def s14_p24_den (K : Value → World → Prop) : (Nat → Value) → World → Prop := denL Tryd.prog [(cd (Tryd.f14.body.getD .skip) [1, 1, 1, 1, 0, 1, 0, 1, 1, 1, 1, 1, 1, 1, 1, 1, 1, 1, 1, 1, 1, 1, 1, 1, 0])] (s14_p9_den K) (fun i => (bif Nat.beq i 0 then (s14_p9_den K) else (fun _ _ => False))) (s14_R K)
theorem s14_p24_ok (K : Value → World → Prop) (s : Nat → Value) (w : World) (h : s14_p24 K (s 0) (s 3) (s 4) (s 5) (s 6) w) : Tr (s14_p24_den K s w) :=
  tr_draw (P := Tryd.prog) (ops := (ro (cd (Tryd.f14.body.getD .skip) [1, 1, 1, 1, 0, 1, 0, 1, 1, 1, 1, 1, 1, 1, 1, 1, 1, 1, 1, 1, 1, 1, 1, 1, 0]))) (ms := [0, 1, 3, 7, 0, 16, 0, 64, 192, 511, 1023, 2047]) (cs := [0, 1, 2, 3, 4, 5, 6, 7, 8, 10]) (N := (fun s w => s14_p9 K (s 0) (s 3) (s 4) (s 5) (s 6) w)) (N' := (s14_p9_den K)) (s := s) (w := w) (p := s14_p24 K (s 0) (s 3) (s 4) (s 5) (s 6) w) (q := s14_p24_den K s w) (by kernel_rfl) (by kernel_rfl) (fun s w h => s14_p9_ok K s w @h) (by kernel_rfl) (by kernel_rfl) @h
def s14_p25 (K : Value → World → Prop) (t0 t3 t4 t5 t6 : Value) (w : World) : Prop :=
  fd 0 t5 (fun t22 w =>
  st1 t22 (.int .i64 12) (fun w =>
  s14_p9 K t0 t3 t4 t5 t6 w) w) w
def s14_p25_den (K : Value → World → Prop) : (Nat → Value) → World → Prop := denL Tryd.prog [(cd (Tryd.f14.body.getD .skip) [1, 1, 1, 1, 0, 1, 0, 1, 1, 1, 1, 1, 1, 1, 1, 1, 1, 1, 1, 1, 1, 1, 1, 1, 1])] (s14_p9_den K) (fun i => (bif Nat.beq i 0 then (s14_p9_den K) else (fun _ _ => False))) (s14_R K)
theorem s14_p25_ok (K : Value → World → Prop) (s : Nat → Value) (w : World) (h : s14_p25 K (s 0) (s 3) (s 4) (s 5) (s 6) w) : Tr (s14_p25_den K s w) :=
  tr_simple (P := Tryd.prog) (codes := [(cd (Tryd.f14.body.getD .skip) [1, 1, 1, 1, 0, 1, 0, 1, 1, 1, 1, 1, 1, 1, 1, 1, 1, 1, 1, 1, 1, 1, 1, 1, 1])]) (N := (fun s w => s14_p9 K (s 0) (s 3) (s 4) (s 5) (s 6) w)) (N' := (s14_p9_den K)) (X := (fun i => (bif Nat.beq i 0 then (fun s w => s14_p9 K (s 0) (s 3) (s 4) (s 5) (s 6) w) else (fun _ _ => False)))) (X' := (fun i => (bif Nat.beq i 0 then (s14_p9_den K) else (fun _ _ => False)))) (R := s14_R K) (s := s) (w := w) (p := s14_p25 K (s 0) (s 3) (s 4) (s 5) (s 6) w) (q := s14_p25_den K s w) (fun s w h => s14_p9_ok K s w @h) (fun i => (tr_bif (fun s w h => s14_p9_ok K s w @h) tr_id)) (by kernel_rfl) (by kernel_rfl) @h
def s14_p26 (K : Value → World → Prop) (t0 t3 t4 t5 t6 t170 : Value) (w : World) : Prop :=
  ifb t170
  (s14_p24 K t0 t3 t4 t5 t6 w)
  (s14_p25 K t0 t3 t4 t5 t6 w)
def s14_p26_den (K : Value → World → Prop) : (Nat → Value) → World → Prop := fun s w => ifb (ev s (.tmp 170)) ((s14_p24_den K) s w) ((s14_p25_den K) s w)
theorem s14_p26_ok (K : Value → World → Prop) (s : Nat → Value) (w : World) (h : s14_p26 K (s 0) (s 3) (s 4) (s 5) (s 6) (s 170) w) : Tr (s14_p26_den K s w) :=
  tr_cond (v := ev s (.tmp 170)) (a := (fun s w => s14_p24 K (s 0) (s 3) (s 4) (s 5) (s 6) w) s w) (a' := (s14_p24_den K) s w) (b := (fun s w => s14_p25 K (s 0) (s 3) (s 4) (s 5) (s 6) w) s w) (b' := (s14_p25_den K) s w) (p := s14_p26 K (s 0) (s 3) (s 4) (s 5) (s 6) (s 170) w) (q := s14_p26_den K s w) ((fun s w h => s14_p24_ok K s w @h) s w) ((fun s w h => s14_p25_ok K s w @h) s w) (by kernel_rfl) (by kernel_rfl) @h
def s14_p27 (K : Value → World → Prop) (t0 t3 t4 t5 t6 t21 : Value) (w : World) : Prop :=
  boI .eql t21 (.int .u8 8) (fun t171 w =>
  s14_p26 K t0 t3 t4 t5 t6 t171 w) w
def s14_p27_den (K : Value → World → Prop) : (Nat → Value) → World → Prop := denL Tryd.prog [(cd (Tryd.f14.body.getD .skip) [1, 1, 1, 1, 0, 1, 0, 1, 1, 1, 1, 1, 1, 1, 1, 1, 1, 1, 1, 1, 1, 1, 1, 0])] (s14_p26_den K) (fun i => (bif Nat.beq i 0 then (s14_p9_den K) else (fun _ _ => False))) (s14_R K)
theorem s14_p27_ok (K : Value → World → Prop) (s : Nat → Value) (w : World) (h : s14_p27 K (s 0) (s 3) (s 4) (s 5) (s 6) (s 21) w) : Tr (s14_p27_den K s w) :=
  tr_simple (P := Tryd.prog) (codes := [(cd (Tryd.f14.body.getD .skip) [1, 1, 1, 1, 0, 1, 0, 1, 1, 1, 1, 1, 1, 1, 1, 1, 1, 1, 1, 1, 1, 1, 1, 0])]) (N := (fun s w => s14_p26 K (s 0) (s 3) (s 4) (s 5) (s 6) (s 170) w)) (N' := (s14_p26_den K)) (X := (fun i => (bif Nat.beq i 0 then (fun s w => s14_p9 K (s 0) (s 3) (s 4) (s 5) (s 6) w) else (fun _ _ => False)))) (X' := (fun i => (bif Nat.beq i 0 then (s14_p9_den K) else (fun _ _ => False)))) (R := s14_R K) (s := s) (w := w) (p := s14_p27 K (s 0) (s 3) (s 4) (s 5) (s 6) (s 21) w) (q := s14_p27_den K s w) (fun s w h => s14_p26_ok K s w @h) (fun i => (tr_bif (fun s w h => s14_p9_ok K s w @h) tr_id)) (by kernel_rfl) (by kernel_rfl) @h
def s14_p28 (K : Value → World → Prop) (t0 t3 t4 t5 t6 t21 t131 : Value) (w : World) : Prop :=
  ifb t131
  (s14_p23 K t0 t3 t4 t5 t6 w)
  (s14_p27 K t0 t3 t4 t5 t6 t21 w)
def s14_p28_den (K : Value → World → Prop) : (Nat → Value) → World → Prop := fun s w => ifb (ev s (.tmp 131)) ((s14_p23_den K) s w) ((s14_p27_den K) s w)
theorem s14_p28_ok (K : Value → World → Prop) (s : Nat → Value) (w : World) (h : s14_p28 K (s 0) (s 3) (s 4) (s 5) (s 6) (s 21) (s 131) w) : Tr (s14_p28_den K s w) :=
  tr_cond (v := ev s (.tmp 131)) (a := (fun s w => s14_p23 K (s 0) (s 3) (s 4) (s 5) (s 6) w) s w) (a' := (s14_p23_den K) s w) (b := (fun s w => s14_p27 K (s 0) (s 3) (s 4) (s 5) (s 6) (s 21) w) s w) (b' := (s14_p27_den K) s w) (p := s14_p28 K (s 0) (s 3) (s 4) (s 5) (s 6) (s 21) (s 131) w) (q := s14_p28_den K s w) ((fun s w h => s14_p23_ok K s w @h) s w) ((fun s w h => s14_p27_ok K s w @h) s w) (by kernel_rfl) (by kernel_rfl) @h
def s14_p29 (K : Value → World → Prop) (t0 t3 t4 t5 t6 t21 : Value) (w : World) : Prop :=
  boI .eql t21 (.int .u8 7) (fun t132 w =>
  s14_p28 K t0 t3 t4 t5 t6 t21 t132 w) w
def s14_p29_den (K : Value → World → Prop) : (Nat → Value) → World → Prop := denL Tryd.prog [(cd (Tryd.f14.body.getD .skip) [1, 1, 1, 1, 0, 1, 0, 1, 1, 1, 1, 1, 1, 1, 1, 1, 1, 1, 1, 1, 1, 0])] (s14_p28_den K) (fun i => (bif Nat.beq i 0 then (s14_p9_den K) else (fun _ _ => False))) (s14_R K)
theorem s14_p29_ok (K : Value → World → Prop) (s : Nat → Value) (w : World) (h : s14_p29 K (s 0) (s 3) (s 4) (s 5) (s 6) (s 21) w) : Tr (s14_p29_den K s w) :=
  tr_simple (P := Tryd.prog) (codes := [(cd (Tryd.f14.body.getD .skip) [1, 1, 1, 1, 0, 1, 0, 1, 1, 1, 1, 1, 1, 1, 1, 1, 1, 1, 1, 1, 1, 0])]) (N := (fun s w => s14_p28 K (s 0) (s 3) (s 4) (s 5) (s 6) (s 21) (s 131) w)) (N' := (s14_p28_den K)) (X := (fun i => (bif Nat.beq i 0 then (fun s w => s14_p9 K (s 0) (s 3) (s 4) (s 5) (s 6) w) else (fun _ _ => False)))) (X' := (fun i => (bif Nat.beq i 0 then (s14_p9_den K) else (fun _ _ => False)))) (R := s14_R K) (s := s) (w := w) (p := s14_p29 K (s 0) (s 3) (s 4) (s 5) (s 6) (s 21) w) (q := s14_p29_den K s w) (fun s w h => s14_p28_ok K s w @h) (fun i => (tr_bif (fun s w h => s14_p9_ok K s w @h) tr_id)) (by kernel_rfl) (by kernel_rfl) @h
def s14_p30 (K : Value → World → Prop) (t0 t3 t4 t5 t6 t21 t117 : Value) (w : World) : Prop :=
  ifb t117
  (s14_p18 K t0 t3 t4 t5 t6 w)
  (s14_p29 K t0 t3 t4 t5 t6 t21 w)
def s14_p30_den (K : Value → World → Prop) : (Nat → Value) → World → Prop := fun s w => ifb (ev s (.tmp 117)) ((s14_p18_den K) s w) ((s14_p29_den K) s w)
theorem s14_p30_ok (K : Value → World → Prop) (s : Nat → Value) (w : World) (h : s14_p30 K (s 0) (s 3) (s 4) (s 5) (s 6) (s 21) (s 117) w) : Tr (s14_p30_den K s w) :=
  tr_cond (v := ev s (.tmp 117)) (a := (fun s w => s14_p18 K (s 0) (s 3) (s 4) (s 5) (s 6) w) s w) (a' := (s14_p18_den K) s w) (b := (fun s w => s14_p29 K (s 0) (s 3) (s 4) (s 5) (s 6) (s 21) w) s w) (b' := (s14_p29_den K) s w) (p := s14_p30 K (s 0) (s 3) (s 4) (s 5) (s 6) (s 21) (s 117) w) (q := s14_p30_den K s w) ((fun s w h => s14_p18_ok K s w @h) s w) ((fun s w h => s14_p29_ok K s w @h) s w) (by kernel_rfl) (by kernel_rfl) @h
def s14_p31 (K : Value → World → Prop) (t0 t3 t4 t5 t6 t21 : Value) (w : World) : Prop :=
  boI .eql t21 (.int .u8 6) (fun t118 w =>
  s14_p30 K t0 t3 t4 t5 t6 t21 t118 w) w
def s14_p31_den (K : Value → World → Prop) : (Nat → Value) → World → Prop := denL Tryd.prog [(cd (Tryd.f14.body.getD .skip) [1, 1, 1, 1, 0, 1, 0, 1, 1, 1, 1, 1, 1, 1, 1, 1, 1, 1, 1, 0])] (s14_p30_den K) (fun i => (bif Nat.beq i 0 then (s14_p9_den K) else (fun _ _ => False))) (s14_R K)
theorem s14_p31_ok (K : Value → World → Prop) (s : Nat → Value) (w : World) (h : s14_p31 K (s 0) (s 3) (s 4) (s 5) (s 6) (s 21) w) : Tr (s14_p31_den K s w) :=
  tr_simple (P := Tryd.prog) (codes := [(cd (Tryd.f14.body.getD .skip) [1, 1, 1, 1, 0, 1, 0, 1, 1, 1, 1, 1, 1, 1, 1, 1, 1, 1, 1, 0])]) (N := (fun s w => s14_p30 K (s 0) (s 3) (s 4) (s 5) (s 6) (s 21) (s 117) w)) (N' := (s14_p30_den K)) (X := (fun i => (bif Nat.beq i 0 then (fun s w => s14_p9 K (s 0) (s 3) (s 4) (s 5) (s 6) w) else (fun _ _ => False)))) (X' := (fun i => (bif Nat.beq i 0 then (s14_p9_den K) else (fun _ _ => False)))) (R := s14_R K) (s := s) (w := w) (p := s14_p31 K (s 0) (s 3) (s 4) (s 5) (s 6) (s 21) w) (q := s14_p31_den K s w) (fun s w h => s14_p30_ok K s w @h) (fun i => (tr_bif (fun s w h => s14_p9_ok K s w @h) tr_id)) (by kernel_rfl) (by kernel_rfl) @h
def s14_p32 (K : Value → World → Prop) (t0 t3 t4 t5 t6 t21 t103 : Value) (w : World) : Prop :=
  ifb t103
  (s14_p17 K t0 t3 t4 t5 t6 w)
  (s14_p31 K t0 t3 t4 t5 t6 t21 w)
def s14_p32_den (K : Value → World → Prop) : (Nat → Value) → World → Prop := fun s w => ifb (ev s (.tmp 103)) ((s14_p17_den K) s w) ((s14_p31_den K) s w)
theorem s14_p32_ok (K : Value → World → Prop) (s : Nat → Value) (w : World) (h : s14_p32 K (s 0) (s 3) (s 4) (s 5) (s 6) (s 21) (s 103) w) : Tr (s14_p32_den K s w) :=
  tr_cond (v := ev s (.tmp 103)) (a := (fun s w => s14_p17 K (s 0) (s 3) (s 4) (s 5) (s 6) w) s w) (a' := (s14_p17_den K) s w) (b := (fun s w => s14_p31 K (s 0) (s 3) (s 4) (s 5) (s 6) (s 21) w) s w) (b' := (s14_p31_den K) s w) (p := s14_p32 K (s 0) (s 3) (s 4) (s 5) (s 6) (s 21) (s 103) w) (q := s14_p32_den K s w) ((fun s w h => s14_p17_ok K s w @h) s w) ((fun s w h => s14_p31_ok K s w @h) s w) (by kernel_rfl) (by kernel_rfl) @h
def s14_p33 (K : Value → World → Prop) (t0 t3 t4 t5 t6 t21 : Value) (w : World) : Prop :=
  boI .eql t21 (.int .u8 5) (fun t104 w =>
  s14_p32 K t0 t3 t4 t5 t6 t21 t104 w) w
def s14_p33_den (K : Value → World → Prop) : (Nat → Value) → World → Prop := denL Tryd.prog [(cd (Tryd.f14.body.getD .skip) [1, 1, 1, 1, 0, 1, 0, 1, 1, 1, 1, 1, 1, 1, 1, 1, 1, 0])] (s14_p32_den K) (fun i => (bif Nat.beq i 0 then (s14_p9_den K) else (fun _ _ => False))) (s14_R K)
theorem s14_p33_ok (K : Value → World → Prop) (s : Nat → Value) (w : World) (h : s14_p33 K (s 0) (s 3) (s 4) (s 5) (s 6) (s 21) w) : Tr (s14_p33_den K s w) :=
  tr_simple (P := Tryd.prog) (codes := [(cd (Tryd.f14.body.getD .skip) [1, 1, 1, 1, 0, 1, 0, 1, 1, 1, 1, 1, 1, 1, 1, 1, 1, 0])]) (N := (fun s w => s14_p32 K (s 0) (s 3) (s 4) (s 5) (s 6) (s 21) (s 103) w)) (N' := (s14_p32_den K)) (X := (fun i => (bif Nat.beq i 0 then (fun s w => s14_p9 K (s 0) (s 3) (s 4) (s 5) (s 6) w) else (fun _ _ => False)))) (X' := (fun i => (bif Nat.beq i 0 then (s14_p9_den K) else (fun _ _ => False)))) (R := s14_R K) (s := s) (w := w) (p := s14_p33 K (s 0) (s 3) (s 4) (s 5) (s 6) (s 21) w) (q := s14_p33_den K s w) (fun s w h => s14_p32_ok K s w @h) (fun i => (tr_bif (fun s w h => s14_p9_ok K s w @h) tr_id)) (by kernel_rfl) (by kernel_rfl) @h
def s14_p34 (K : Value → World → Prop) (t0 t3 t4 t5 t6 t21 t93 : Value) (w : World) : Prop :=
  ifb t93
  (s14_p16 K t0 t3 t4 t5 t6 w)
  (s14_p33 K t0 t3 t4 t5 t6 t21 w)
def s14_p34_den (K : Value → World → Prop) : (Nat → Value) → World → Prop := fun s w => ifb (ev s (.tmp 93)) ((s14_p16_den K) s w) ((s14_p33_den K) s w)
theorem s14_p34_ok (K : Value → World → Prop) (s : Nat → Value) (w : World) (h : s14_p34 K (s 0) (s 3) (s 4) (s 5) (s 6) (s 21) (s 93) w) : Tr (s14_p34_den K s w) :=
  tr_cond (v := ev s (.tmp 93)) (a := (fun s w => s14_p16 K (s 0) (s 3) (s 4) (s 5) (s 6) w) s w) (a' := (s14_p16_den K) s w) (b := (fun s w => s14_p33 K (s 0) (s 3) (s 4) (s 5) (s 6) (s 21) w) s w) (b' := (s14_p33_den K) s w) (p := s14_p34 K (s 0) (s 3) (s 4) (s 5) (s 6) (s 21) (s 93) w) (q := s14_p34_den K s w) ((fun s w h => s14_p16_ok K s w @h) s w) ((fun s w h => s14_p33_ok K s w @h) s w) (by kernel_rfl) (by kernel_rfl) @h
def s14_p35 (K : Value → World → Prop) (t0 t3 t4 t5 t6 t21 : Value) (w : World) : Prop :=
  boI .eql t21 (.int .u8 4) (fun t94 w =>
  s14_p34 K t0 t3 t4 t5 t6 t21 t94 w) w
def s14_p35_den (K : Value → World → Prop) : (Nat → Value) → World → Prop := denL Tryd.prog [(cd (Tryd.f14.body.getD .skip) [1, 1, 1, 1, 0, 1, 0, 1, 1, 1, 1, 1, 1, 1, 1, 0])] (s14_p34_den K) (fun i => (bif Nat.beq i 0 then (s14_p9_den K) else (fun _ _ => False))) (s14_R K)
theorem s14_p35_ok (K : Value → World → Prop) (s : Nat → Value) (w : World) (h : s14_p35 K (s 0) (s 3) (s 4) (s 5) (s 6) (s 21) w) : Tr (s14_p35_den K s w) :=
  tr_simple (P := Tryd.prog) (codes := [(cd (Tryd.f14.body.getD .skip) [1, 1, 1, 1, 0, 1, 0, 1, 1, 1, 1, 1, 1, 1, 1, 0])]) (N := (fun s w => s14_p34 K (s 0) (s 3) (s 4) (s 5) (s 6) (s 21) (s 93) w)) (N' := (s14_p34_den K)) (X := (fun i => (bif Nat.beq i 0 then (fun s w => s14_p9 K (s 0) (s 3) (s 4) (s 5) (s 6) w) else (fun _ _ => False)))) (X' := (fun i => (bif Nat.beq i 0 then (s14_p9_den K) else (fun _ _ => False)))) (R := s14_R K) (s := s) (w := w) (p := s14_p35 K (s 0) (s 3) (s 4) (s 5) (s 6) (s 21) w) (q := s14_p35_den K s w) (fun s w h => s14_p34_ok K s w @h) (fun i => (tr_bif (fun s w h => s14_p9_ok K s w @h) tr_id)) (by kernel_rfl) (by kernel_rfl) @h
def s14_p36 (K : Value → World → Prop) (t0 t3 t4 t5 t6 t21 t81 : Value) (w : World) : Prop :=
  ifb t81
  (s14_p15 K t0 t3 t4 t5 t6 w)
  (s14_p35 K t0 t3 t4 t5 t6 t21 w)
def s14_p36_den (K : Value → World → Prop) : (Nat → Value) → World → Prop := fun s w => ifb (ev s (.tmp 81)) ((s14_p15_den K) s w) ((s14_p35_den K) s w)
theorem s14_p36_ok (K : Value → World → Prop) (s : Nat → Value) (w : World) (h : s14_p36 K (s 0) (s 3) (s 4) (s 5) (s 6) (s 21) (s 81) w) : Tr (s14_p36_den K s w) :=
  tr_cond (v := ev s (.tmp 81)) (a := (fun s w => s14_p15 K (s 0) (s 3) (s 4) (s 5) (s 6) w) s w) (a' := (s14_p15_den K) s w) (b := (fun s w => s14_p35 K (s 0) (s 3) (s 4) (s 5) (s 6) (s 21) w) s w) (b' := (s14_p35_den K) s w) (p := s14_p36 K (s 0) (s 3) (s 4) (s 5) (s 6) (s 21) (s 81) w) (q := s14_p36_den K s w) ((fun s w h => s14_p15_ok K s w @h) s w) ((fun s w h => s14_p35_ok K s w @h) s w) (by kernel_rfl) (by kernel_rfl) @h
def s14_p37 (K : Value → World → Prop) (t0 t3 t4 t5 t6 t21 : Value) (w : World) : Prop :=
  boI .eql t21 (.int .u8 3) (fun t82 w =>
  s14_p36 K t0 t3 t4 t5 t6 t21 t82 w) w
def s14_p37_den (K : Value → World → Prop) : (Nat → Value) → World → Prop := denL Tryd.prog [(cd (Tryd.f14.body.getD .skip) [1, 1, 1, 1, 0, 1, 0, 1, 1, 1, 1, 1, 1, 0])] (s14_p36_den K) (fun i => (bif Nat.beq i 0 then (s14_p9_den K) else (fun _ _ => False))) (s14_R K)
theorem s14_p37_ok (K : Value → World → Prop) (s : Nat → Value) (w : World) (h : s14_p37 K (s 0) (s 3) (s 4) (s 5) (s 6) (s 21) w) : Tr (s14_p37_den K s w) :=
  tr_simple (P := Tryd.prog) (codes := [(cd (Tryd.f14.body.getD .skip) [1, 1, 1, 1, 0, 1, 0, 1, 1, 1, 1, 1, 1, 0])]) (N := (fun s w => s14_p36 K (s 0) (s 3) (s 4) (s 5) (s 6) (s 21) (s 81) w)) (N' := (s14_p36_den K)) (X := (fun i => (bif Nat.beq i 0 then (fun s w => s14_p9 K (s 0) (s 3) (s 4) (s 5) (s 6) w) else (fun _ _ => False)))) (X' := (fun i => (bif Nat.beq i 0 then (s14_p9_den K) else (fun _ _ => False)))) (R := s14_R K) (s := s) (w := w) (p := s14_p37 K (s 0) (s 3) (s 4) (s 5) (s 6) (s 21) w) (q := s14_p37_den K s w) (fun s w h => s14_p36_ok K s w @h) (fun i => (tr_bif (fun s w h => s14_p9_ok K s w @h) tr_id)) (by kernel_rfl) (by kernel_rfl) @h
def s14_p38 (K : Value → World → Prop) (t0 t3 t4 t5 t6 t21 t67 : Value) (w : World) : Prop :=
  ifb t67
  (s14_p14 K t0 t3 t4 t5 t6 w)
  (s14_p37 K t0 t3 t4 t5 t6 t21 w)
def s14_p38_den (K : Value → World → Prop) : (Nat → Value) → World → Prop := fun s w => ifb (ev s (.tmp 67)) ((s14_p14_den K) s w) ((s14_p37_den K) s w)
theorem s14_p38_ok (K : Value → World → Prop) (s : Nat → Value) (w : World) (h : s14_p38 K (s 0) (s 3) (s 4) (s 5) (s 6) (s 21) (s 67) w) : Tr (s14_p38_den K s w) :=
  tr_cond (v := ev s (.tmp 67)) (a := (fun s w => s14_p14 K (s 0) (s 3) (s 4) (s 5) (s 6) w) s w) (a' := (s14_p14_den K) s w) (b := (fun s w => s14_p37 K (s 0) (s 3) (s 4) (s 5) (s 6) (s 21) w) s w) (b' := (s14_p37_den K) s w) (p := s14_p38 K (s 0) (s 3) (s 4) (s 5) (s 6) (s 21) (s 67) w) (q := s14_p38_den K s w) ((fun s w h => s14_p14_ok K s w @h) s w) ((fun s w h => s14_p37_ok K s w @h) s w) (by kernel_rfl) (by kernel_rfl) @h
def s14_p39 (K : Value → World → Prop) (t0 t3 t4 t5 t6 t21 : Value) (w : World) : Prop :=
  boI .eql t21 (.int .u8 2) (fun t68 w =>
  s14_p38 K t0 t3 t4 t5 t6 t21 t68 w) w
def s14_p39_den (K : Value → World → Prop) : (Nat → Value) → World → Prop := denL Tryd.prog [(cd (Tryd.f14.body.getD .skip) [1, 1, 1, 1, 0, 1, 0, 1, 1, 1, 1, 0])] (s14_p38_den K) (fun i => (bif Nat.beq i 0 then (s14_p9_den K) else (fun _ _ => False))) (s14_R K)
theorem s14_p39_ok (K : Value → World → Prop) (s : Nat → Value) (w : World) (h : s14_p39 K (s 0) (s 3) (s 4) (s 5) (s 6) (s 21) w) : Tr (s14_p39_den K s w) :=
  tr_simple (P := Tryd.prog) (codes := [(cd (Tryd.f14.body.getD .skip) [1, 1, 1, 1, 0, 1, 0, 1, 1, 1, 1, 0])]) (N := (fun s w => s14_p38 K (s 0) (s 3) (s 4) (s 5) (s 6) (s 21) (s 67) w)) (N' := (s14_p38_den K)) (X := (fun i => (bif Nat.beq i 0 then (fun s w => s14_p9 K (s 0) (s 3) (s 4) (s 5) (s 6) w) else (fun _ _ => False)))) (X' := (fun i => (bif Nat.beq i 0 then (s14_p9_den K) else (fun _ _ => False)))) (R := s14_R K) (s := s) (w := w) (p := s14_p39 K (s 0) (s 3) (s 4) (s 5) (s 6) (s 21) w) (q := s14_p39_den K s w) (fun s w h => s14_p38_ok K s w @h) (fun i => (tr_bif (fun s w h => s14_p9_ok K s w @h) tr_id)) (by kernel_rfl) (by kernel_rfl) @h
def s14_p40 (K : Value → World → Prop) (t0 t3 t4 t5 t6 t21 t51 : Value) (w : World) : Prop :=
  ifb t51
  (s14_p13 K t0 t3 t4 t5 t6 w)
  (s14_p39 K t0 t3 t4 t5 t6 t21 w)
def s14_p40_den (K : Value → World → Prop) : (Nat → Value) → World → Prop := fun s w => ifb (ev s (.tmp 51)) ((s14_p13_den K) s w) ((s14_p39_den K) s w)
theorem s14_p40_ok (K : Value → World → Prop) (s : Nat → Value) (w : World) (h : s14_p40 K (s 0) (s 3) (s 4) (s 5) (s 6) (s 21) (s 51) w) : Tr (s14_p40_den K s w) :=
  tr_cond (v := ev s (.tmp 51)) (a := (fun s w => s14_p13 K (s 0) (s 3) (s 4) (s 5) (s 6) w) s w) (a' := (s14_p13_den K) s w) (b := (fun s w => s14_p39 K (s 0) (s 3) (s 4) (s 5) (s 6) (s 21) w) s w) (b' := (s14_p39_den K) s w) (p := s14_p40 K (s 0) (s 3) (s 4) (s 5) (s 6) (s 21) (s 51) w) (q := s14_p40_den K s w) ((fun s w h => s14_p13_ok K s w @h) s w) ((fun s w h => s14_p39_ok K s w @h) s w) (by kernel_rfl) (by kernel_rfl) @h
def s14_p41 (K : Value → World → Prop) (t0 t3 t4 t5 t6 t21 : Value) (w : World) : Prop :=
  boI .eql t21 (.int .u8 1) (fun t52 w =>
  s14_p40 K t0 t3 t4 t5 t6 t21 t52 w) w
def s14_p41_den (K : Value → World → Prop) : (Nat → Value) → World → Prop := denL Tryd.prog [(cd (Tryd.f14.body.getD .skip) [1, 1, 1, 1, 0, 1, 0, 1, 1, 0])] (s14_p40_den K) (fun i => (bif Nat.beq i 0 then (s14_p9_den K) else (fun _ _ => False))) (s14_R K)
theorem s14_p41_ok (K : Value → World → Prop) (s : Nat → Value) (w : World) (h : s14_p41 K (s 0) (s 3) (s 4) (s 5) (s 6) (s 21) w) : Tr (s14_p41_den K s w) :=
  tr_simple (P := Tryd.prog) (codes := [(cd (Tryd.f14.body.getD .skip) [1, 1, 1, 1, 0, 1, 0, 1, 1, 0])]) (N := (fun s w => s14_p40 K (s 0) (s 3) (s 4) (s 5) (s 6) (s 21) (s 51) w)) (N' := (s14_p40_den K)) (X := (fun i => (bif Nat.beq i 0 then (fun s w => s14_p9 K (s 0) (s 3) (s 4) (s 5) (s 6) w) else (fun _ _ => False)))) (X' := (fun i => (bif Nat.beq i 0 then (s14_p9_den K) else (fun _ _ => False)))) (R := s14_R K) (s := s) (w := w) (p := s14_p41 K (s 0) (s 3) (s 4) (s 5) (s 6) (s 21) w) (q := s14_p41_den K s w) (fun s w h => s14_p40_ok K s w @h) (fun i => (tr_bif (fun s w h => s14_p9_ok K s w @h) tr_id)) (by kernel_rfl) (by kernel_rfl) @h
def s14_p42 (K : Value → World → Prop) (t0 t3 t4 t5 t6 t21 t23 : Value) (w : World) : Prop :=
  ifb t23
  (s14_p12 K t0 t3 t4 t5 t6 w)
  (s14_p41 K t0 t3 t4 t5 t6 t21 w)
def s14_p42_den (K : Value → World → Prop) : (Nat → Value) → World → Prop := fun s w => ifb (ev s (.tmp 23)) ((s14_p12_den K) s w) ((s14_p41_den K) s w)
theorem s14_p42_ok (K : Value → World → Prop) (s : Nat → Value) (w : World) (h : s14_p42 K (s 0) (s 3) (s 4) (s 5) (s 6) (s 21) (s 23) w) : Tr (s14_p42_den K s w) :=
  tr_cond (v := ev s (.tmp 23)) (a := (fun s w => s14_p12 K (s 0) (s 3) (s 4) (s 5) (s 6) w) s w) (a' := (s14_p12_den K) s w) (b := (fun s w => s14_p41 K (s 0) (s 3) (s 4) (s 5) (s 6) (s 21) w) s w) (b' := (s14_p41_den K) s w) (p := s14_p42 K (s 0) (s 3) (s 4) (s 5) (s 6) (s 21) (s 23) w) (q := s14_p42_den K s w) ((fun s w h => s14_p12_ok K s w @h) s w) ((fun s w h => s14_p41_ok K s w @h) s w) (by kernel_rfl) (by kernel_rfl) @h
def s14_p43 (K : Value → World → Prop) (t0 t3 t4 t5 t6 t21 : Value) (w : World) : Prop :=
  boI .eql t21 (.int .u8 0) (fun t24 w =>
  s14_p42 K t0 t3 t4 t5 t6 t21 t24 w) w
def s14_p43_den (K : Value → World → Prop) : (Nat → Value) → World → Prop := denL Tryd.prog [(cd (Tryd.f14.body.getD .skip) [1, 1, 1, 1, 0, 1, 0, 0])] (s14_p42_den K) (fun i => (bif Nat.beq i 0 then (s14_p9_den K) else (fun _ _ => False))) (s14_R K)
theorem s14_p43_ok (K : Value → World → Prop) (s : Nat → Value) (w : World) (h : s14_p43 K (s 0) (s 3) (s 4) (s 5) (s 6) (s 21) w) : Tr (s14_p43_den K s w) :=
  tr_simple (P := Tryd.prog) (codes := [(cd (Tryd.f14.body.getD .skip) [1, 1, 1, 1, 0, 1, 0, 0])]) (N := (fun s w => s14_p42 K (s 0) (s 3) (s 4) (s 5) (s 6) (s 21) (s 23) w)) (N' := (s14_p42_den K)) (X := (fun i => (bif Nat.beq i 0 then (fun s w => s14_p9 K (s 0) (s 3) (s 4) (s 5) (s 6) w) else (fun _ _ => False)))) (X' := (fun i => (bif Nat.beq i 0 then (s14_p9_den K) else (fun _ _ => False)))) (R := s14_R K) (s := s) (w := w) (p := s14_p43 K (s 0) (s 3) (s 4) (s 5) (s 6) (s 21) w) (q := s14_p43_den K s w) (fun s w h => s14_p42_ok K s w @h) (fun i => (tr_bif (fun s w h => s14_p9_ok K s w @h) tr_id)) (by kernel_rfl) (by kernel_rfl) @h
def s14_p44 (K : Value → World → Prop) (t0 t1 : Value) (w : World) : Prop :=
  nw 33 (t1).cells (fun t3 w =>
  nw 41 #[(.int .i64 0), (.int .i64 0), (.int .u32 0), (.int .u32 0), (.int .u32 0), (.int .u32 0), (.int .u64 0), (.int .u64 0), (.slice none 0 0)] (fun t4 w =>
  bdq [(.int .i64 0), (.int .i64 0), (.int .u32 0), (.int .u32 0), (.int .u32 0), (.int .u32 0), (.int .u64 0), (.int .u64 0), (.slice none 0 0)] [(some (1, 1), (.int .i64 (-1)))] (fun t9 w =>
  nw 41 #[(.int .i64 0), (.int .i64 0), (.int .u32 0), (.int .u32 0), (.int .u32 0), (.int .u32 0), (.int .u64 0), (.int .u64 0), (.slice none 0 0)] (fun t5 w =>
  stn 9 t5 t9 (fun w =>
  nck t0 (fun t11 w =>
  fd 0 t11 (fun t12 w =>
  ld1 t12 (fun t13 w =>
  cl Tryd.prog 25 #[t13] (fun t14 w =>
  nck t0 (fun t16 w =>
  fd 0 t16 (fun t17 w =>
  ld1 t17 (fun t18 w =>
  cl Tryd.prog 31 #[t18] (fun t19 w =>
  fd 0 t3 (fun t20 w =>
  ld1 t20 (fun t21 w =>
  s14_p43 K t0 t3 t4 t5 t19 t21 w) w) w) w) w) w) w) w) w) w) w) w) w) w) w) w
def s14_p44_den (K : Value → World → Prop) : (Nat → Value) → World → Prop := denL Tryd.prog [(cd (Tryd.f14.body.getD .skip) [0]), (cd (Tryd.f14.body.getD .skip) [1, 0]), (cd (Tryd.f14.body.getD .skip) [1, 1, 0]), (cd (Tryd.f14.body.getD .skip) [1, 1, 1, 0]), (cd (Tryd.f14.body.getD .skip) [1, 1, 1, 1, 0, 0])] (s14_p43_den K) (fun i => (fun _ _ => False)) (s14_R K)
theorem s14_p44_ok (K : Value → World → Prop) (s : Nat → Value) (w : World) (h : s14_p44 K (s 0) (s 1) w) : Tr (s14_p44_den K s w) :=
  tr_simple (P := Tryd.prog) (codes := [(cd (Tryd.f14.body.getD .skip) [0]), (cd (Tryd.f14.body.getD .skip) [1, 0]), (cd (Tryd.f14.body.getD .skip) [1, 1, 0]), (cd (Tryd.f14.body.getD .skip) [1, 1, 1, 0]), (cd (Tryd.f14.body.getD .skip) [1, 1, 1, 1, 0, 0])]) (N := (fun s w => s14_p43 K (s 0) (s 3) (s 4) (s 5) (s 6) (s 21) w)) (N' := (s14_p43_den K)) (X := (fun i => (fun _ _ => False))) (X' := (fun i => (fun _ _ => False))) (R := s14_R K) (s := s) (w := w) (p := s14_p44 K (s 0) (s 1) w) (q := s14_p44_den K s w) (fun s w h => s14_p43_ok K s w @h) (fun i => tr_id) (by kernel_rfl) (by kernel_rfl) @h
/-- the call, from the text -/
theorem c14 (t0 t1 : Value) {K : Value → World → Prop} {w : World} (h : s14_p44 K t0 t1 w) : cl Tryd.prog 14 #[t0, t1] K w :=
  calls_of_tr (c := (Tryd.f14.body.getD .skip)) (fn := Tryd.f14) (q := s14_p44_den K (st0 #[t0, t1]) w) Tryd.func14 (by kernel_rfl) (by kernel_rfl) (Nat.le_of_ble_eq_true (by kernel_rfl)) (by kernel_rfl) (by kernel_rfl) (s14_p44_ok K (st0 #[t0, t1]) w @h)

/-! ### function 15 : (*e2e.poollaw.world).model -/
def s15_R (K : Value → World → Prop) (s : Nat → Value) (w : World) : Prop := retv Tryd.prog s Tryd.f15.results.toList (fun vs => K (pack vs) w) w
def s15_p1 (K : Value → World → Prop) (t6 : Value) (w : World) : Prop :=
  ldn 9 t6 (fun t167 w =>
  stn 9 t6 t167 (fun w =>
  ldn 9 t6 (fun r0 _ =>
  K (.tuple #[r0, (.bool true)]) w) w) w) w
def s15_p1_den (K : Value → World → Prop) : (Nat → Value) → World → Prop := denL Tryd.prog [(cd (Tryd.f15.body.getD .skip) [1, 1, 1, 0]), (cd (Tryd.f15.body.getD .skip) [1, 1, 1, 1])] (fun _ _ => False) (fun i => (fun _ _ => False)) (s15_R K)
theorem s15_p1_ok (K : Value → World → Prop) (s : Nat → Value) (w : World) (h : s15_p1 K (s 6) w) : Tr (s15_p1_den K s w) :=
  tr_simple (P := Tryd.prog) (codes := [(cd (Tryd.f15.body.getD .skip) [1, 1, 1, 0]), (cd (Tryd.f15.body.getD .skip) [1, 1, 1, 1])]) (N := (fun _ _ => False)) (N' := (fun _ _ => False)) (X := (fun i => (fun _ _ => False))) (X' := (fun i => (fun _ _ => False))) (R := s15_R K) (s := s) (w := w) (p := s15_p1 K (s 6) w) (q := s15_p1_den K s w) tr_id (fun i => tr_id) (by kernel_rfl) (by kernel_rfl) @h
def s15_p2 (K : Value → World → Prop) (t0 t4 t6 : Value) (w : World) : Prop :=
  fd 4 t4 (fun t19 w =>
  ld1 t19 (fun t20 w =>
  fd 5 t4 (fun t21 w =>
  ld1 t21 (fun t22 w =>
  cl Tryd.prog 30 #[(.int .i64 4096), t20, t22] (fun t23 w =>
  exq t23 0 (fun t24 w =>
  exq t23 1 (fun t25 w =>
  fd 0 t6 (fun t26 w =>
  st1 t26 t25 (fun w =>
  fd 0 t6 (fun t27 w =>
  ld1 t27 (fun t28 w =>
  boI .eql t28 (.int .i64 0) (fun t29 w =>
  ifb t29
  (nck t0 (fun t32 w =>
  fd 2 t32 (fun t33 w =>
  st1 t33 t24 (fun w =>
  s15_p1 K t6 w) w) w) w)
  (s15_p1 K t6 w)) w) w) w) w) w) w) w) w) w) w) w) w
def s15_p2_den (K : Value → World → Prop) : (Nat → Value) → World → Prop := denL Tryd.prog [(cd (Tryd.f15.body.getD .skip) [1, 1, 0, 1, 0, 1, 0, 0]), (cd (Tryd.f15.body.getD .skip) [1, 1, 0, 1, 0, 1, 0, 1, 0]), (cd (Tryd.f15.body.getD .skip) [1, 1, 0, 1, 0, 1, 0, 1, 1, 0]), (cd (Tryd.f15.body.getD .skip) [1, 1, 0, 1, 0, 1, 0, 1, 1, 1])] (s15_p1_den K) (fun i => (bif Nat.beq i 0 then (s15_p1_den K) else (fun _ _ => False))) (s15_R K)
theorem s15_p2_ok (K : Value → World → Prop) (s : Nat → Value) (w : World) (h : s15_p2 K (s 0) (s 4) (s 6) w) : Tr (s15_p2_den K s w) :=
  tr_simple (P := Tryd.prog) (codes := [(cd (Tryd.f15.body.getD .skip) [1, 1, 0, 1, 0, 1, 0, 0]), (cd (Tryd.f15.body.getD .skip) [1, 1, 0, 1, 0, 1, 0, 1, 0]), (cd (Tryd.f15.body.getD .skip) [1, 1, 0, 1, 0, 1, 0, 1, 1, 0]), (cd (Tryd.f15.body.getD .skip) [1, 1, 0, 1, 0, 1, 0, 1, 1, 1])]) (N := (fun s w => s15_p1 K (s 6) w)) (N' := (s15_p1_den K)) (X := (fun i => (bif Nat.beq i 0 then (fun s w => s15_p1 K (s 6) w) else (fun _ _ => False)))) (X' := (fun i => (bif Nat.beq i 0 then (s15_p1_den K) else (fun _ _ => False)))) (R := s15_R K) (s := s) (w := w) (p := s15_p2 K (s 0) (s 4) (s 6) w) (q := s15_p2_den K s w) (fun s w h => s15_p1_ok K s w @h) (fun i => (tr_bif (fun s w h => s15_p1_ok K s w @h) tr_id)) (by kernel_rfl) (by kernel_rfl) @h
def s15_p3_d (K : Value → World → Prop) (t0 t4 t6 : Value) (w0 w : World) : Prop :=
  nck t0 (fun t38 _ =>
  fd 2 t38 (fun t39 _ =>
  ld1 t39 (fun t40 _ =>
  fd 4 t4 (fun t41 _ =>
  ld1 t41 (fun t42 _ =>
  fd 5 t4 (fun t43 _ =>
  ld1 t43 (fun t44 _ =>
  fd 1 t6 (fun t48 _ =>
  fd 0 t6 (fun t49 _ =>
  cl Tryd.prog 40 #[t40, t42, t44] (fun t45 w =>
  (exq t45 0 (fun t46 w =>
  (exq t45 1 (fun t47 w =>
  st1 t48 t46 (fun w =>
  st1 t49 t47 (fun w =>
  s15_p1 K t6 w) w) w) w) ∧
  (st1 t48 t46 (fun w =>
  exq t45 1 (fun t47_2 w =>
  st1 t49 t47_2 (fun w =>
  s15_p1 K t6 w) w) w) w)) w) ∧
  (exq t45 1 (fun t47_3 w =>
  exq t45 0 (fun t46_2 w =>
  st1 t48 t46_2 (fun w =>
  st1 t49 t47_3 (fun w =>
  s15_p1 K t6 w) w) w) w) w)) w) w0) w0) w0) w0) w0) w0) w0) w0) w0
def s15_p3 (K : Value → World → Prop) (t0 t4 t6 : Value) (w : World) : Prop := s15_p3_d K t0 t4 t6 (drw w) (drw w)
def s15_p3_den (K : Value → World → Prop) : (Nat → Value) → World → Prop := denL Tryd.prog [(cd (Tryd.f15.body.getD .skip) [1, 1, 0, 1, 0, 1, 1, 1, 0])] (s15_p1_den K) (fun i => (bif Nat.beq i 0 then (s15_p1_den K) else (fun _ _ => False))) (s15_R K)
theorem s15_p3_ok (K : Value → World → Prop) (s : Nat → Value) (w : World) (h : s15_p3 K (s 0) (s 4) (s 6) w) : Tr (s15_p3_den K s w) :=
  tr_draw (P := Tryd.prog) (ops := (ro (cd (Tryd.f15.body.getD .skip) [1, 1, 0, 1, 0, 1, 1, 1, 0]))) (ms := [0, 1, 3, 7, 0, 16, 0, 64, 255, 511, 1023, 1023, 2047, 6143, 16383, 32767]) (cs := [0, 1, 2, 3, 4, 5, 6, 7, 12, 14]) (N := (fun s w => s15_p1 K (s 6) w)) (N' := (s15_p1_den K)) (s := s) (w := w) (p := s15_p3 K (s 0) (s 4) (s 6) w) (q := s15_p3_den K s w) (by kernel_rfl) (by kernel_rfl) (fun s w h => s15_p1_ok K s w @h) (by kernel_rfl) (by kernel_rfl) @h
def s15_p4 (K : Value → World → Prop) (t2 t6 t98 : Value) (w : World) : Prop :=
  ifb t98
  (ldn 9 t6 (fun t99 w =>
  stn 9 t6 t99 (fun w =>
  ldn 9 t6 (fun r0 _ =>
  K (.tuple #[r0, (.bool false)]) w) w) w) w)
  (fd 2 t6 (fun t101 w =>
  st1 t101 t2 (fun w =>
  s15_p1 K t6 w) w) w)
def s15_p4_den (K : Value → World → Prop) : (Nat → Value) → World → Prop := denL Tryd.prog [(cd (Tryd.f15.body.getD .skip) [1, 1, 0, 1, 0, 1, 1, 1, 1, 1, 0, 1, 1, 0, 1, 1, 0, 1]), (cd (Tryd.f15.body.getD .skip) [1, 1, 0, 1, 0, 1, 1, 1, 1, 1, 0, 1, 1, 0, 1, 1, 1])] (s15_p1_den K) (fun i => (bif Nat.beq i 0 then (s15_p1_den K) else (fun _ _ => False))) (s15_R K)
theorem s15_p4_ok (K : Value → World → Prop) (s : Nat → Value) (w : World) (h : s15_p4 K (s 2) (s 6) (s 98) w) : Tr (s15_p4_den K s w) :=
  tr_simple (P := Tryd.prog) (codes := [(cd (Tryd.f15.body.getD .skip) [1, 1, 0, 1, 0, 1, 1, 1, 1, 1, 0, 1, 1, 0, 1, 1, 0, 1]), (cd (Tryd.f15.body.getD .skip) [1, 1, 0, 1, 0, 1, 1, 1, 1, 1, 0, 1, 1, 0, 1, 1, 1])]) (N := (fun s w => s15_p1 K (s 6) w)) (N' := (s15_p1_den K)) (X := (fun i => (bif Nat.beq i 0 then (fun s w => s15_p1 K (s 6) w) else (fun _ _ => False)))) (X' := (fun i => (bif Nat.beq i 0 then (s15_p1_den K) else (fun _ _ => False)))) (R := s15_R K) (s := s) (w := w) (p := s15_p4 K (s 2) (s 6) (s 98) w) (q := s15_p4_den K s w) (fun s w h => s15_p1_ok K s w @h) (fun i => (tr_bif (fun s w h => s15_p1_ok K s w @h) tr_id)) (by kernel_rfl) (by kernel_rfl) @h
def s15_p5_d (K : Value → World → Prop) (t0 t2 t4 t6 t9 t10 : Value) (w0 w : World) : Prop :=
  boI .rem t9 t10 (fun t84 _ =>
  boI .neq t84 (.int .i64 0) (fun t85 _ =>
  gd t85 false (fun K w => K t0 w) (fun t87 _ =>
  gd t85 false (nck t87) (fun t88 _ =>
  gd t85 false (fd 2 t88) (fun t89 _ =>
  gd t85 false (ld1 t89) (fun t90 _ =>
  gd t85 false (fd 1 t4) (fun t91 _ =>
  gd t85 false (ld1 t91) (fun t92 _ =>
  gd t85 false (fun K w => K t9 w) (fun t93 _ =>
  gd t85 false (fun K w => K t10 w) (fun t94 _ =>
  gd t85 false (boI .quo t93 t94) (fun t95 _ =>
  gd t85 false (cl Tryd.prog 42 #[t90, t92, t95]) (fun t96 w =>
  gd t85 false (un .not t96) (fun t97 w =>
  pk t85 (.bool true) t97 (fun t98 w =>
  s15_p4 K t2 t6 t98 w) w) w) w) w0) w0) w0) w0) w0) w0) w0) w0) w0) w0) w0
def s15_p5 (K : Value → World → Prop) (t0 t2 t4 t6 t9 t10 : Value) (w : World) : Prop := s15_p5_d K t0 t2 t4 t6 t9 t10 (drw w) (drw w)
def s15_p5_den (K : Value → World → Prop) : (Nat → Value) → World → Prop := denL Tryd.prog [(cd (Tryd.f15.body.getD .skip) [1, 1, 0, 1, 0, 1, 1, 1, 1, 1, 0, 1, 1, 0, 1, 1, 0, 0])] (s15_p4_den K) (fun i => (bif Nat.beq i 0 then (s15_p1_den K) else (fun _ _ => False))) (s15_R K)
theorem s15_p5_ok (K : Value → World → Prop) (s : Nat → Value) (w : World) (h : s15_p5 K (s 0) (s 2) (s 4) (s 6) (s 9) (s 10) w) : Tr (s15_p5_den K s w) :=
  tr_draw (P := Tryd.prog) (ops := (ro (cd (Tryd.f15.body.getD .skip) [1, 1, 0, 1, 0, 1, 1, 1, 1, 1, 0, 1, 1, 0, 1, 1, 0, 0]))) (ms := [0, 0, 3, 7, 15, 31, 63, 127, 255, 31, 543, 31, 31, 6175, 16383, 32767, 65535]) (cs := [0, 1, 2, 3, 4, 5, 6, 7, 8, 9, 10, 11, 12, 13]) (N := (fun s w => s15_p4 K (s 2) (s 6) (s 98) w)) (N' := (s15_p4_den K)) (s := s) (w := w) (p := s15_p5 K (s 0) (s 2) (s 4) (s 6) (s 9) (s 10) w) (q := s15_p5_den K s w) (by kernel_rfl) (by kernel_rfl) (fun s w h => s15_p4_ok K s w @h) (by kernel_rfl) (by kernel_rfl) @h
def s15_p6_d (K : Value → World → Prop) (t0 t2 t4 t6 t9 : Value) (w0 w : World) : Prop :=
  nck t0 (fun t69 _ =>
  fd 2 t69 (fun t70 _ =>
  ld1 t70 (fun t71 _ =>
  nck t71 (fun t72 _ =>
  fd 1 t72 (fun t73 _ =>
  ld1 t73 (fun t74 _ =>
  fd 1 t4 (fun t75 _ =>
  ld1 t75 (fun t76 _ =>
  ixs 1 t74 t76 (fun t77 _ =>
  ld1 t77 (fun t78 _ =>
  nck t78 (fun t79 _ =>
  fd 0 t79 (fun t80 _ =>
  ld1 t80 (fun t81 _ =>
  s15_p5 K t0 t2 t4 t6 t9 t81 w) w0) w0) w0) w0) w0) w0) w0) w0) w0) w0) w0) w0) w0
def s15_p6 (K : Value → World → Prop) (t0 t2 t4 t6 t9 : Value) (w : World) : Prop := s15_p6_d K t0 t2 t4 t6 t9 (drw w) (drw w)
def s15_p6_den (K : Value → World → Prop) : (Nat → Value) → World → Prop := denL Tryd.prog [(cd (Tryd.f15.body.getD .skip) [1, 1, 0, 1, 0, 1, 1, 1, 1, 1, 0, 1, 1, 0, 1, 0])] (s15_p5_den K) (fun i => (bif Nat.beq i 0 then (s15_p1_den K) else (fun _ _ => False))) (s15_R K)
theorem s15_p6_ok (K : Value → World → Prop) (s : Nat → Value) (w : World) (h : s15_p6 K (s 0) (s 2) (s 4) (s 6) (s 9) w) : Tr (s15_p6_den K s w) :=
  tr_draw (P := Tryd.prog) (ops := (ro (cd (Tryd.f15.body.getD .skip) [1, 1, 0, 1, 0, 1, 1, 1, 1, 1, 0, 1, 1, 0, 1, 0]))) (ms := [0, 1, 3, 7, 15, 31, 63, 0, 128, 511, 1023, 2047, 4095, 8191, 16383]) (cs := [0, 1, 2, 3, 4, 5, 6, 7, 8, 9, 10, 11, 12, 13, 14]) (N := (fun s w => s15_p5 K (s 0) (s 2) (s 4) (s 6) (s 9) (s 10) w)) (N' := (s15_p5_den K)) (s := s) (w := w) (p := s15_p6 K (s 0) (s 2) (s 4) (s 6) (s 9) w) (q := s15_p6_den K s w) (by kernel_rfl) (by kernel_rfl) (fun s w h => s15_p5_ok K s w @h) (by kernel_rfl) (by kernel_rfl) @h
def s15_p7 (K : Value → World → Prop) (t0 t2 t4 t6 : Value) (w : World) : Prop :=
  fd 1 t4 (fun t64 w =>
  ld1 t64 (fun t65 w =>
  cl Tryd.prog 19 #[t0, t65, t2] (fun t67 w =>
  s15_p6 K t0 t2 t4 t6 t67 w) w) w) w
def s15_p7_den (K : Value → World → Prop) : (Nat → Value) → World → Prop := denL Tryd.prog [(cd (Tryd.f15.body.getD .skip) [1, 1, 0, 1, 0, 1, 1, 1, 1, 1, 0, 1, 1, 0, 0])] (s15_p6_den K) (fun i => (bif Nat.beq i 0 then (s15_p1_den K) else (fun _ _ => False))) (s15_R K)
theorem s15_p7_ok (K : Value → World → Prop) (s : Nat → Value) (w : World) (h : s15_p7 K (s 0) (s 2) (s 4) (s 6) w) : Tr (s15_p7_den K s w) :=
  tr_simple (P := Tryd.prog) (codes := [(cd (Tryd.f15.body.getD .skip) [1, 1, 0, 1, 0, 1, 1, 1, 1, 1, 0, 1, 1, 0, 0])]) (N := (fun s w => s15_p6 K (s 0) (s 2) (s 4) (s 6) (s 9) w)) (N' := (s15_p6_den K)) (X := (fun i => (bif Nat.beq i 0 then (fun s w => s15_p1 K (s 6) w) else (fun _ _ => False)))) (X' := (fun i => (bif Nat.beq i 0 then (s15_p1_den K) else (fun _ _ => False)))) (R := s15_R K) (s := s) (w := w) (p := s15_p7 K (s 0) (s 2) (s 4) (s 6) w) (q := s15_p7_den K s w) (fun s w h => s15_p6_ok K s w @h) (fun i => (tr_bif (fun s w h => s15_p1_ok K s w @h) tr_id)) (by kernel_rfl) (by kernel_rfl) @h
def s15_p8 (K : Value → World → Prop) (t0 t2 t4 t6 t62 : Value) (w : World) : Prop :=
  ifb t62
  (s15_p7 K t0 t2 t4 t6 w)
  (s15_p1 K t6 w)
def s15_p8_den (K : Value → World → Prop) : (Nat → Value) → World → Prop := fun s w => ifb (ev s (.tmp 62)) ((s15_p7_den K) s w) ((s15_p1_den K) s w)
theorem s15_p8_ok (K : Value → World → Prop) (s : Nat → Value) (w : World) (h : s15_p8 K (s 0) (s 2) (s 4) (s 6) (s 62) w) : Tr (s15_p8_den K s w) :=
  tr_cond (v := ev s (.tmp 62)) (a := (fun s w => s15_p7 K (s 0) (s 2) (s 4) (s 6) w) s w) (a' := (s15_p7_den K) s w) (b := (fun s w => s15_p1 K (s 6) w) s w) (b' := (s15_p1_den K) s w) (p := s15_p8 K (s 0) (s 2) (s 4) (s 6) (s 62) w) (q := s15_p8_den K s w) ((fun s w h => s15_p7_ok K s w @h) s w) ((fun s w h => s15_p1_ok K s w @h) s w) (by kernel_rfl) (by kernel_rfl) @h
def s15_p9 (K : Value → World → Prop) (t0 t2 t4 t6 : Value) (w : World) : Prop :=
  fd 0 t6 (fun t60 w =>
  ld1 t60 (fun t61 w =>
  boI .eql t61 (.int .i64 0) (fun t62 w =>
  s15_p8 K t0 t2 t4 t6 t62 w) w) w) w
def s15_p9_den (K : Value → World → Prop) : (Nat → Value) → World → Prop := denL Tryd.prog [(cd (Tryd.f15.body.getD .skip) [1, 1, 0, 1, 0, 1, 1, 1, 1, 1, 0, 1, 0])] (s15_p8_den K) (fun i => (bif Nat.beq i 0 then (s15_p1_den K) else (fun _ _ => False))) (s15_R K)
theorem s15_p9_ok (K : Value → World → Prop) (s : Nat → Value) (w : World) (h : s15_p9 K (s 0) (s 2) (s 4) (s 6) w) : Tr (s15_p9_den K s w) :=
  tr_simple (P := Tryd.prog) (codes := [(cd (Tryd.f15.body.getD .skip) [1, 1, 0, 1, 0, 1, 1, 1, 1, 1, 0, 1, 0])]) (N := (fun s w => s15_p8 K (s 0) (s 2) (s 4) (s 6) (s 62) w)) (N' := (s15_p8_den K)) (X := (fun i => (bif Nat.beq i 0 then (fun s w => s15_p1 K (s 6) w) else (fun _ _ => False)))) (X' := (fun i => (bif Nat.beq i 0 then (s15_p1_den K) else (fun _ _ => False)))) (R := s15_R K) (s := s) (w := w) (p := s15_p9 K (s 0) (s 2) (s 4) (s 6) w) (q := s15_p9_den K s w) (fun s w h => s15_p8_ok K s w @h) (fun i => (tr_bif (fun s w h => s15_p1_ok K s w @h) tr_id)) (by kernel_rfl) (by kernel_rfl) @h
def s15_p10_d (K : Value → World → Prop) (t0 t2 t4 t6 : Value) (w0 w : World) : Prop :=
  nck t0 (fun t53 _ =>
  fd 2 t53 (fun t54 _ =>
  ld1 t54 (fun t55 _ =>
  fd 1 t4 (fun t56 _ =>
  ld1 t56 (fun t57 _ =>
  fd 0 t6 (fun t59 _ =>
  cl Tryd.prog 41 #[t55, t57] (fun t58 w =>
  st1 t59 t58 (fun w =>
  s15_p9 K t0 t2 t4 t6 w) w) w) w0) w0) w0) w0) w0) w0
def s15_p10 (K : Value → World → Prop) (t0 t2 t4 t6 : Value) (w : World) : Prop := s15_p10_d K t0 t2 t4 t6 (drw w) (drw w)
def s15_p10_den (K : Value → World → Prop) : (Nat → Value) → World → Prop := denL Tryd.prog [(cd (Tryd.f15.body.getD .skip) [1, 1, 0, 1, 0, 1, 1, 1, 1, 1, 0, 0])] (s15_p9_den K) (fun i => (bif Nat.beq i 0 then (s15_p1_den K) else (fun _ _ => False))) (s15_R K)
theorem s15_p10_ok (K : Value → World → Prop) (s : Nat → Value) (w : World) (h : s15_p10 K (s 0) (s 2) (s 4) (s 6) w) : Tr (s15_p10_den K s w) :=
  tr_draw (P := Tryd.prog) (ops := (ro (cd (Tryd.f15.body.getD .skip) [1, 1, 0, 1, 0, 1, 1, 1, 1, 1, 0, 0]))) (ms := [0, 1, 3, 7, 0, 16, 63, 127, 255]) (cs := [0, 1, 2, 3, 4, 5, 7]) (N := (fun s w => s15_p9 K (s 0) (s 2) (s 4) (s 6) w)) (N' := (s15_p9_den K)) (s := s) (w := w) (p := s15_p10 K (s 0) (s 2) (s 4) (s 6) w) (q := s15_p10_den K s w) (by kernel_rfl) (by kernel_rfl) (fun s w h => s15_p9_ok K s w @h) (by kernel_rfl) (by kernel_rfl) @h
def s15_p11_d (K : Value → World → Prop) (J : World → Prop) (t0 t4 t6 : Value) (w0 w : World) : Prop :=
  nck t0 (fun t105 _ =>
  fd 2 t105 (fun t106 _ =>
  Go.Sh.R.qw J (ld1 t106) (fun t107 =>
  fd 1 t4 (fun t108 _ =>
  Go.Sh.R.qw J (ld1 t108) (fun t109 =>
  fd 1 t4 (fun t111 _ =>
  Go.Sh.R.qw J (ld1 t111) (fun t112 =>
  fd 2 t4 (fun t113 _ =>
  Go.Sh.R.qw J (ld1 t113) (fun t114 =>
  fd 0 t6 (fun t117 _ =>
  cl Tryd.prog 19 #[t0, t112, t114] (fun t115 w =>
  J w ∧
  cl Tryd.prog 43 #[t107, t109, t115] (fun t116 w =>
  st1 t117 t116 (fun w =>
  s15_p1 K t6 w) w) w) w) w0)) w0)) w0)) w0)) w0) w0
def s15_p11 (K : Value → World → Prop) (t0 t4 t6 : Value) (w : World) : Prop := ∃ J : World → Prop, J (drw w) ∧ s15_p11_d K J t0 t4 t6 (drw w) (drw w)
def s15_p11_den (K : Value → World → Prop) : (Nat → Value) → World → Prop := denL Tryd.prog [(cd (Tryd.f15.body.getD .skip) [1, 1, 0, 1, 0, 1, 1, 1, 1, 1, 1, 1, 0])] (s15_p1_den K) (fun i => (bif Nat.beq i 0 then (s15_p1_den K) else (fun _ _ => False))) (s15_R K)
theorem s15_p11_ok (K : Value → World → Prop) (s : Nat → Value) (w : World) (h : s15_p11 K (s 0) (s 4) (s 6) w) : Tr (s15_p11_den K s w) :=
  Go.Sh.R.tr_drawR (P := Tryd.prog) (ops := (ro (cd (Tryd.f15.body.getD .skip) [1, 1, 0, 1, 0, 1, 1, 1, 1, 1, 1, 1, 0]))) (ms := [0, 1, 3, 7, 0, 16, 0, 0, 128, 0, 512, 1984, 4095, 8191, 16383]) (cs := [0, 1, 2, 3, 4, 5, 6, 7, 8, 9, 10, 13]) (N := (fun s w => s15_p1 K (s 6) w)) (N' := (s15_p1_den K)) (s := s) (w := w) (p := fun J => s15_p11_d K J (s 0) (s 4) (s 6) (drw w) (drw w)) (q := s15_p11_den K s w) (by kernel_rfl) (by kernel_rfl) (fun s w h => s15_p1_ok K s w @h) (by kernel_rfl) (by kernel_rfl) @h
def s15_p12_d (K : Value → World → Prop) (J : World → Prop) (t0 t4 t6 t11 : Value) (w0 w : World) : Prop :=
  nck t0 (fun t128 _ =>
  fd 2 t128 (fun t129 _ =>
  Go.Sh.R.qw J (ld1 t129) (fun t130 =>
  fd 2 t4 (fun t134 _ =>
  Go.Sh.R.qw J (ld1 t134) (fun t135 =>
  fd 0 t6 (fun t138 _ =>
  cl Tryd.prog 19 #[t0, t11, t135] (fun t136 w =>
  J w ∧
  cl Tryd.prog 43 #[t130, t11, t136] (fun t137 w =>
  st1 t138 t137 (fun w =>
  s15_p1 K t6 w) w) w) w) w0)) w0)) w0) w0
def s15_p12 (K : Value → World → Prop) (t0 t4 t6 t11 : Value) (w : World) : Prop := ∃ J : World → Prop, J (drw w) ∧ s15_p12_d K J t0 t4 t6 t11 (drw w) (drw w)
def s15_p12_den (K : Value → World → Prop) : (Nat → Value) → World → Prop := denL Tryd.prog [(cd (Tryd.f15.body.getD .skip) [1, 1, 0, 1, 0, 1, 1, 1, 1, 1, 1, 1, 1, 1, 0, 1, 1, 1, 0])] (s15_p1_den K) (fun i => (bif Nat.beq i 0 then (s15_p1_den K) else (fun _ _ => False))) (s15_R K)
theorem s15_p12_ok (K : Value → World → Prop) (s : Nat → Value) (w : World) (h : s15_p12 K (s 0) (s 4) (s 6) (s 11) w) : Tr (s15_p12_den K s w) :=
  Go.Sh.R.tr_drawR (P := Tryd.prog) (ops := (ro (cd (Tryd.f15.body.getD .skip) [1, 1, 0, 1, 0, 1, 1, 1, 1, 1, 1, 1, 1, 1, 0, 1, 1, 1, 0]))) (ms := [0, 1, 3, 7, 0, 0, 0, 0, 128, 480, 1023, 2047, 4095]) (cs := [0, 1, 2, 3, 4, 5, 6, 7, 8, 11]) (N := (fun s w => s15_p1 K (s 6) w)) (N' := (s15_p1_den K)) (s := s) (w := w) (p := fun J => s15_p12_d K J (s 0) (s 4) (s 6) (s 11) (drw w) (drw w)) (q := s15_p12_den K s w) (by kernel_rfl) (by kernel_rfl) (fun s w h => s15_p1_ok K s w @h) (by kernel_rfl) (by kernel_rfl) @h
def s15_p13 (K : Value → World → Prop) (t0 t4 t6 t11 t126 : Value) (w : World) : Prop :=
  ifb t126
  (s15_p12 K t0 t4 t6 t11 w)
  (s15_p1 K t6 w)
def s15_p13_den (K : Value → World → Prop) : (Nat → Value) → World → Prop := fun s w => ifb (ev s (.tmp 126)) ((s15_p12_den K) s w) ((s15_p1_den K) s w)
theorem s15_p13_ok (K : Value → World → Prop) (s : Nat → Value) (w : World) (h : s15_p13 K (s 0) (s 4) (s 6) (s 11) (s 126) w) : Tr (s15_p13_den K s w) :=
  tr_cond (v := ev s (.tmp 126)) (a := (fun s w => s15_p12 K (s 0) (s 4) (s 6) (s 11) w) s w) (a' := (s15_p12_den K) s w) (b := (fun s w => s15_p1 K (s 6) w) s w) (b' := (s15_p1_den K) s w) (p := s15_p13 K (s 0) (s 4) (s 6) (s 11) (s 126) w) (q := s15_p13_den K s w) ((fun s w h => s15_p12_ok K s w @h) s w) ((fun s w h => s15_p1_ok K s w @h) s w) (by kernel_rfl) (by kernel_rfl) @h
def s15_p14 (K : Value → World → Prop) (t0 t4 t6 : Value) (w : World) : Prop :=
  fd 0 t6 (fun t120 w =>
  st1 t120 (.int .i64 8) (fun w =>
  fd 2 t4 (fun t122 w =>
  ld1 t122 (fun t123 w =>
  cl Tryd.prog 18 #[t0, t123] (fun t124 w =>
  boI .neq t124 (.int .i64 (-1)) (fun t126 w =>
  s15_p13 K t0 t4 t6 t124 t126 w) w) w) w) w) w) w
def s15_p14_den (K : Value → World → Prop) : (Nat → Value) → World → Prop := denL Tryd.prog [(cd (Tryd.f15.body.getD .skip) [1, 1, 0, 1, 0, 1, 1, 1, 1, 1, 1, 1, 1, 1, 0, 0]), (cd (Tryd.f15.body.getD .skip) [1, 1, 0, 1, 0, 1, 1, 1, 1, 1, 1, 1, 1, 1, 0, 1, 0]), (cd (Tryd.f15.body.getD .skip) [1, 1, 0, 1, 0, 1, 1, 1, 1, 1, 1, 1, 1, 1, 0, 1, 1, 0])] (s15_p13_den K) (fun i => (bif Nat.beq i 0 then (s15_p1_den K) else (fun _ _ => False))) (s15_R K)
theorem s15_p14_ok (K : Value → World → Prop) (s : Nat → Value) (w : World) (h : s15_p14 K (s 0) (s 4) (s 6) w) : Tr (s15_p14_den K s w) :=
  tr_simple (P := Tryd.prog) (codes := [(cd (Tryd.f15.body.getD .skip) [1, 1, 0, 1, 0, 1, 1, 1, 1, 1, 1, 1, 1, 1, 0, 0]), (cd (Tryd.f15.body.getD .skip) [1, 1, 0, 1, 0, 1, 1, 1, 1, 1, 1, 1, 1, 1, 0, 1, 0]), (cd (Tryd.f15.body.getD .skip) [1, 1, 0, 1, 0, 1, 1, 1, 1, 1, 1, 1, 1, 1, 0, 1, 1, 0])]) (N := (fun s w => s15_p13 K (s 0) (s 4) (s 6) (s 11) (s 126) w)) (N' := (s15_p13_den K)) (X := (fun i => (bif Nat.beq i 0 then (fun s w => s15_p1 K (s 6) w) else (fun _ _ => False)))) (X' := (fun i => (bif Nat.beq i 0 then (s15_p1_den K) else (fun _ _ => False)))) (R := s15_R K) (s := s) (w := w) (p := s15_p14 K (s 0) (s 4) (s 6) w) (q := s15_p14_den K s w) (fun s w h => s15_p13_ok K s w @h) (fun i => (tr_bif (fun s w h => s15_p1_ok K s w @h) tr_id)) (by kernel_rfl) (by kernel_rfl) @h
def s15_p15 (K : Value → World → Prop) (t0 t4 t6 : Value) (w : World) : Prop :=
  fd 2 t4 (fun t142 w =>
  ld1 t142 (fun t143 w =>
  cl Tryd.prog 18 #[t0, t143] (fun t144 w =>
  fd 1 t6 (fun t145 w =>
  st1 t145 t144 (fun w =>
  fd 1 t6 (fun t146 w =>
  ld1 t146 (fun t147 w =>
  boI .eql t147 (.int .i64 (-1)) (fun t148 w =>
  ifb t148
  (fd 0 t6 (fun t149 w =>
  st1 t149 (.int .i64 8) (fun w =>
  s15_p1 K t6 w) w) w)
  (s15_p1 K t6 w)) w) w) w) w) w) w) w) w
def s15_p15_den (K : Value → World → Prop) : (Nat → Value) → World → Prop := denL Tryd.prog [(cd (Tryd.f15.body.getD .skip) [1, 1, 0, 1, 0, 1, 1, 1, 1, 1, 1, 1, 1, 1, 1, 1, 0, 0]), (cd (Tryd.f15.body.getD .skip) [1, 1, 0, 1, 0, 1, 1, 1, 1, 1, 1, 1, 1, 1, 1, 1, 0, 1, 0]), (cd (Tryd.f15.body.getD .skip) [1, 1, 0, 1, 0, 1, 1, 1, 1, 1, 1, 1, 1, 1, 1, 1, 0, 1, 1])] (s15_p1_den K) (fun i => (bif Nat.beq i 0 then (s15_p1_den K) else (fun _ _ => False))) (s15_R K)
theorem s15_p15_ok (K : Value → World → Prop) (s : Nat → Value) (w : World) (h : s15_p15 K (s 0) (s 4) (s 6) w) : Tr (s15_p15_den K s w) :=
  tr_simple (P := Tryd.prog) (codes := [(cd (Tryd.f15.body.getD .skip) [1, 1, 0, 1, 0, 1, 1, 1, 1, 1, 1, 1, 1, 1, 1, 1, 0, 0]), (cd (Tryd.f15.body.getD .skip) [1, 1, 0, 1, 0, 1, 1, 1, 1, 1, 1, 1, 1, 1, 1, 1, 0, 1, 0]), (cd (Tryd.f15.body.getD .skip) [1, 1, 0, 1, 0, 1, 1, 1, 1, 1, 1, 1, 1, 1, 1, 1, 0, 1, 1])]) (N := (fun s w => s15_p1 K (s 6) w)) (N' := (s15_p1_den K)) (X := (fun i => (bif Nat.beq i 0 then (fun s w => s15_p1 K (s 6) w) else (fun _ _ => False)))) (X' := (fun i => (bif Nat.beq i 0 then (s15_p1_den K) else (fun _ _ => False)))) (R := s15_R K) (s := s) (w := w) (p := s15_p15 K (s 0) (s 4) (s 6) w) (q := s15_p15_den K s w) (fun s w h => s15_p1_ok K s w @h) (fun i => (tr_bif (fun s w h => s15_p1_ok K s w @h) tr_id)) (by kernel_rfl) (by kernel_rfl) @h
def s15_p16_d (K : Value → World → Prop) (t0 t4 t6 : Value) (w0 w : World) : Prop :=
  nck t0 (fun t154 _ =>
  fd 2 t154 (fun t155 _ =>
  ld1 t155 (fun t156 _ =>
  fd 1 t4 (fun t157 _ =>
  ld1 t157 (fun t158 _ =>
  fd 3 t6 (fun t162 _ =>
  fd 0 t6 (fun t163 _ =>
  cl Tryd.prog 44 #[t156, t158] (fun t159 w =>
  (exq t159 0 (fun t160 w =>
  (exq t159 1 (fun t161 w =>
  stn 4 t162 t160 (fun w =>
  st1 t163 t161 (fun w =>
  s15_p1 K t6 w) w) w) w) ∧
  (stn 4 t162 t160 (fun w =>
  exq t159 1 (fun t161_2 w =>
  st1 t163 t161_2 (fun w =>
  s15_p1 K t6 w) w) w) w)) w) ∧
  (exq t159 1 (fun t161_3 w =>
  exq t159 0 (fun t160_2 w =>
  stn 4 t162 t160_2 (fun w =>
  st1 t163 t161_3 (fun w =>
  s15_p1 K t6 w) w) w) w) w)) w) w0) w0) w0) w0) w0) w0) w0
def s15_p16 (K : Value → World → Prop) (t0 t4 t6 : Value) (w : World) : Prop := s15_p16_d K t0 t4 t6 (drw w) (drw w)
def s15_p16_den (K : Value → World → Prop) : (Nat → Value) → World → Prop := denL Tryd.prog [(cd (Tryd.f15.body.getD .skip) [1, 1, 0, 1, 0, 1, 1, 1, 1, 1, 1, 1, 1, 1, 1, 1, 1, 1, 0])] (s15_p1_den K) (fun i => (bif Nat.beq i 0 then (s15_p1_den K) else (fun _ _ => False))) (s15_R K)
theorem s15_p16_ok (K : Value → World → Prop) (s : Nat → Value) (w : World) (h : s15_p16 K (s 0) (s 4) (s 6) w) : Tr (s15_p16_den K s w) :=
  tr_draw (P := Tryd.prog) (ops := (ro (cd (Tryd.f15.body.getD .skip) [1, 1, 0, 1, 0, 1, 1, 1, 1, 1, 1, 1, 1, 1, 1, 1, 1, 1, 0]))) (ms := [0, 1, 3, 7, 0, 16, 63, 127, 255, 255, 511, 1535, 4095, 8191]) (cs := [0, 1, 2, 3, 4, 5, 10, 12]) (N := (fun s w => s15_p1 K (s 6) w)) (N' := (s15_p1_den K)) (s := s) (w := w) (p := s15_p16 K (s 0) (s 4) (s 6) w) (q := s15_p16_den K s w) (by kernel_rfl) (by kernel_rfl) (fun s w h => s15_p1_ok K s w @h) (by kernel_rfl) (by kernel_rfl) @h
def s15_p17 (K : Value → World → Prop) (t6 t164 : Value) (w : World) : Prop :=
  ifb t164
  (s15_p1 K t6 w)
  (fd 0 t6 (fun t15 w =>
  st1 t15 (.int .i64 12) (fun w =>
  s15_p1 K t6 w) w) w)
def s15_p17_den (K : Value → World → Prop) : (Nat → Value) → World → Prop := denL Tryd.prog [(cd (Tryd.f15.body.getD .skip) [1, 1, 0, 1, 0, 1, 1, 1, 1, 1, 1, 1, 1, 1, 1, 1, 1, 1, 1, 1])] (s15_p1_den K) (fun i => (bif Nat.beq i 0 then (s15_p1_den K) else (fun _ _ => False))) (s15_R K)
theorem s15_p17_ok (K : Value → World → Prop) (s : Nat → Value) (w : World) (h : s15_p17 K (s 6) (s 164) w) : Tr (s15_p17_den K s w) :=
  tr_simple (P := Tryd.prog) (codes := [(cd (Tryd.f15.body.getD .skip) [1, 1, 0, 1, 0, 1, 1, 1, 1, 1, 1, 1, 1, 1, 1, 1, 1, 1, 1, 1])]) (N := (fun s w => s15_p1 K (s 6) w)) (N' := (s15_p1_den K)) (X := (fun i => (bif Nat.beq i 0 then (fun s w => s15_p1 K (s 6) w) else (fun _ _ => False)))) (X' := (fun i => (bif Nat.beq i 0 then (s15_p1_den K) else (fun _ _ => False)))) (R := s15_R K) (s := s) (w := w) (p := s15_p17 K (s 6) (s 164) w) (q := s15_p17_den K s w) (fun s w h => s15_p1_ok K s w @h) (fun i => (tr_bif (fun s w h => s15_p1_ok K s w @h) tr_id)) (by kernel_rfl) (by kernel_rfl) @h
def s15_p18 (K : Value → World → Prop) (t6 t14 : Value) (w : World) : Prop :=
  boI .eql t14 (.int .u8 7) (fun t165 w =>
  ifb t165
  (s15_p17 K t6 t165 w)
  (boI .eql t14 (.int .u8 8) (fun t166 w =>
  s15_p17 K t6 t166 w) w)) w
def s15_p18_den (K : Value → World → Prop) : (Nat → Value) → World → Prop := denL Tryd.prog [(cd (Tryd.f15.body.getD .skip) [1, 1, 0, 1, 0, 1, 1, 1, 1, 1, 1, 1, 1, 1, 1, 1, 1, 1, 1, 0, 0]), (cd (Tryd.f15.body.getD .skip) [1, 1, 0, 1, 0, 1, 1, 1, 1, 1, 1, 1, 1, 1, 1, 1, 1, 1, 1, 0, 1])] (s15_p17_den K) (fun i => (bif Nat.beq i 0 then (s15_p1_den K) else (fun _ _ => False))) (s15_R K)
theorem s15_p18_ok (K : Value → World → Prop) (s : Nat → Value) (w : World) (h : s15_p18 K (s 6) (s 14) w) : Tr (s15_p18_den K s w) :=
  tr_simple (P := Tryd.prog) (codes := [(cd (Tryd.f15.body.getD .skip) [1, 1, 0, 1, 0, 1, 1, 1, 1, 1, 1, 1, 1, 1, 1, 1, 1, 1, 1, 0, 0]), (cd (Tryd.f15.body.getD .skip) [1, 1, 0, 1, 0, 1, 1, 1, 1, 1, 1, 1, 1, 1, 1, 1, 1, 1, 1, 0, 1])]) (N := (fun s w => s15_p17 K (s 6) (s 164) w)) (N' := (s15_p17_den K)) (X := (fun i => (bif Nat.beq i 0 then (fun s w => s15_p1 K (s 6) w) else (fun _ _ => False)))) (X' := (fun i => (bif Nat.beq i 0 then (s15_p1_den K) else (fun _ _ => False)))) (R := s15_R K) (s := s) (w := w) (p := s15_p18 K (s 6) (s 14) w) (q := s15_p18_den K s w) (fun s w h => s15_p17_ok K s w @h) (fun i => (tr_bif (fun s w h => s15_p1_ok K s w @h) tr_id)) (by kernel_rfl) (by kernel_rfl) @h
def s15_p19 (K : Value → World → Prop) (t0 t4 t6 t14 t150 : Value) (w : World) : Prop :=
  ifb t150
  (s15_p16 K t0 t4 t6 w)
  (s15_p18 K t6 t14 w)
def s15_p19_den (K : Value → World → Prop) : (Nat → Value) → World → Prop := fun s w => ifb (ev s (.tmp 150)) ((s15_p16_den K) s w) ((s15_p18_den K) s w)
theorem s15_p19_ok (K : Value → World → Prop) (s : Nat → Value) (w : World) (h : s15_p19 K (s 0) (s 4) (s 6) (s 14) (s 150) w) : Tr (s15_p19_den K s w) :=
  tr_cond (v := ev s (.tmp 150)) (a := (fun s w => s15_p16 K (s 0) (s 4) (s 6) w) s w) (a' := (s15_p16_den K) s w) (b := (fun s w => s15_p18 K (s 6) (s 14) w) s w) (b' := (s15_p18_den K) s w) (p := s15_p19 K (s 0) (s 4) (s 6) (s 14) (s 150) w) (q := s15_p19_den K s w) ((fun s w h => s15_p16_ok K s w @h) s w) ((fun s w h => s15_p18_ok K s w @h) s w) (by kernel_rfl) (by kernel_rfl) @h
def s15_p20 (K : Value → World → Prop) (t0 t4 t6 t14 : Value) (w : World) : Prop :=
  boI .eql t14 (.int .u8 6) (fun t151 w =>
  s15_p19 K t0 t4 t6 t14 t151 w) w
def s15_p20_den (K : Value → World → Prop) : (Nat → Value) → World → Prop := denL Tryd.prog [(cd (Tryd.f15.body.getD .skip) [1, 1, 0, 1, 0, 1, 1, 1, 1, 1, 1, 1, 1, 1, 1, 1, 1, 0])] (s15_p19_den K) (fun i => (bif Nat.beq i 0 then (s15_p1_den K) else (fun _ _ => False))) (s15_R K)
theorem s15_p20_ok (K : Value → World → Prop) (s : Nat → Value) (w : World) (h : s15_p20 K (s 0) (s 4) (s 6) (s 14) w) : Tr (s15_p20_den K s w) :=
  tr_simple (P := Tryd.prog) (codes := [(cd (Tryd.f15.body.getD .skip) [1, 1, 0, 1, 0, 1, 1, 1, 1, 1, 1, 1, 1, 1, 1, 1, 1, 0])]) (N := (fun s w => s15_p19 K (s 0) (s 4) (s 6) (s 14) (s 150) w)) (N' := (s15_p19_den K)) (X := (fun i => (bif Nat.beq i 0 then (fun s w => s15_p1 K (s 6) w) else (fun _ _ => False)))) (X' := (fun i => (bif Nat.beq i 0 then (s15_p1_den K) else (fun _ _ => False)))) (R := s15_R K) (s := s) (w := w) (p := s15_p20 K (s 0) (s 4) (s 6) (s 14) w) (q := s15_p20_den K s w) (fun s w h => s15_p19_ok K s w @h) (fun i => (tr_bif (fun s w h => s15_p1_ok K s w @h) tr_id)) (by kernel_rfl) (by kernel_rfl) @h
def s15_p21 (K : Value → World → Prop) (t0 t4 t6 t14 t139 : Value) (w : World) : Prop :=
  ifb t139
  (s15_p15 K t0 t4 t6 w)
  (s15_p20 K t0 t4 t6 t14 w)
def s15_p21_den (K : Value → World → Prop) : (Nat → Value) → World → Prop := fun s w => ifb (ev s (.tmp 139)) ((s15_p15_den K) s w) ((s15_p20_den K) s w)
theorem s15_p21_ok (K : Value → World → Prop) (s : Nat → Value) (w : World) (h : s15_p21 K (s 0) (s 4) (s 6) (s 14) (s 139) w) : Tr (s15_p21_den K s w) :=
  tr_cond (v := ev s (.tmp 139)) (a := (fun s w => s15_p15 K (s 0) (s 4) (s 6) w) s w) (a' := (s15_p15_den K) s w) (b := (fun s w => s15_p20 K (s 0) (s 4) (s 6) (s 14) w) s w) (b' := (s15_p20_den K) s w) (p := s15_p21 K (s 0) (s 4) (s 6) (s 14) (s 139) w) (q := s15_p21_den K s w) ((fun s w h => s15_p15_ok K s w @h) s w) ((fun s w h => s15_p20_ok K s w @h) s w) (by kernel_rfl) (by kernel_rfl) @h
def s15_p22 (K : Value → World → Prop) (t0 t4 t6 t14 : Value) (w : World) : Prop :=
  boI .eql t14 (.int .u8 5) (fun t140 w =>
  s15_p21 K t0 t4 t6 t14 t140 w) w
def s15_p22_den (K : Value → World → Prop) : (Nat → Value) → World → Prop := denL Tryd.prog [(cd (Tryd.f15.body.getD .skip) [1, 1, 0, 1, 0, 1, 1, 1, 1, 1, 1, 1, 1, 1, 1, 0])] (s15_p21_den K) (fun i => (bif Nat.beq i 0 then (s15_p1_den K) else (fun _ _ => False))) (s15_R K)
theorem s15_p22_ok (K : Value → World → Prop) (s : Nat → Value) (w : World) (h : s15_p22 K (s 0) (s 4) (s 6) (s 14) w) : Tr (s15_p22_den K s w) :=
  tr_simple (P := Tryd.prog) (codes := [(cd (Tryd.f15.body.getD .skip) [1, 1, 0, 1, 0, 1, 1, 1, 1, 1, 1, 1, 1, 1, 1, 0])]) (N := (fun s w => s15_p21 K (s 0) (s 4) (s 6) (s 14) (s 139) w)) (N' := (s15_p21_den K)) (X := (fun i => (bif Nat.beq i 0 then (fun s w => s15_p1 K (s 6) w) else (fun _ _ => False)))) (X' := (fun i => (bif Nat.beq i 0 then (s15_p1_den K) else (fun _ _ => False)))) (R := s15_R K) (s := s) (w := w) (p := s15_p22 K (s 0) (s 4) (s 6) (s 14) w) (q := s15_p22_den K s w) (fun s w h => s15_p21_ok K s w @h) (fun i => (tr_bif (fun s w h => s15_p1_ok K s w @h) tr_id)) (by kernel_rfl) (by kernel_rfl) @h
def s15_p23 (K : Value → World → Prop) (t0 t4 t6 t14 t118 : Value) (w : World) : Prop :=
  ifb t118
  (s15_p14 K t0 t4 t6 w)
  (s15_p22 K t0 t4 t6 t14 w)
def s15_p23_den (K : Value → World → Prop) : (Nat → Value) → World → Prop := fun s w => ifb (ev s (.tmp 118)) ((s15_p14_den K) s w) ((s15_p22_den K) s w)
theorem s15_p23_ok (K : Value → World → Prop) (s : Nat → Value) (w : World) (h : s15_p23 K (s 0) (s 4) (s 6) (s 14) (s 118) w) : Tr (s15_p23_den K s w) :=
  tr_cond (v := ev s (.tmp 118)) (a := (fun s w => s15_p14 K (s 0) (s 4) (s 6) w) s w) (a' := (s15_p14_den K) s w) (b := (fun s w => s15_p22 K (s 0) (s 4) (s 6) (s 14) w) s w) (b' := (s15_p22_den K) s w) (p := s15_p23 K (s 0) (s 4) (s 6) (s 14) (s 118) w) (q := s15_p23_den K s w) ((fun s w h => s15_p14_ok K s w @h) s w) ((fun s w h => s15_p22_ok K s w @h) s w) (by kernel_rfl) (by kernel_rfl) @h
def s15_p24 (K : Value → World → Prop) (t0 t4 t6 t14 : Value) (w : World) : Prop :=
  boI .eql t14 (.int .u8 4) (fun t119 w =>
  s15_p23 K t0 t4 t6 t14 t119 w) w
def s15_p24_den (K : Value → World → Prop) : (Nat → Value) → World → Prop := denL Tryd.prog [(cd (Tryd.f15.body.getD .skip) [1, 1, 0, 1, 0, 1, 1, 1, 1, 1, 1, 1, 1, 0])] (s15_p23_den K) (fun i => (bif Nat.beq i 0 then (s15_p1_den K) else (fun _ _ => False))) (s15_R K)
theorem s15_p24_ok (K : Value → World → Prop) (s : Nat → Value) (w : World) (h : s15_p24 K (s 0) (s 4) (s 6) (s 14) w) : Tr (s15_p24_den K s w) :=
  tr_simple (P := Tryd.prog) (codes := [(cd (Tryd.f15.body.getD .skip) [1, 1, 0, 1, 0, 1, 1, 1, 1, 1, 1, 1, 1, 0])]) (N := (fun s w => s15_p23 K (s 0) (s 4) (s 6) (s 14) (s 118) w)) (N' := (s15_p23_den K)) (X := (fun i => (bif Nat.beq i 0 then (fun s w => s15_p1 K (s 6) w) else (fun _ _ => False)))) (X' := (fun i => (bif Nat.beq i 0 then (s15_p1_den K) else (fun _ _ => False)))) (R := s15_R K) (s := s) (w := w) (p := s15_p24 K (s 0) (s 4) (s 6) (s 14) w) (q := s15_p24_den K s w) (fun s w h => s15_p23_ok K s w @h) (fun i => (tr_bif (fun s w h => s15_p1_ok K s w @h) tr_id)) (by kernel_rfl) (by kernel_rfl) @h
def s15_p25 (K : Value → World → Prop) (t0 t4 t6 t14 t102 : Value) (w : World) : Prop :=
  ifb t102
  (s15_p11 K t0 t4 t6 w)
  (s15_p24 K t0 t4 t6 t14 w)
def s15_p25_den (K : Value → World → Prop) : (Nat → Value) → World → Prop := fun s w => ifb (ev s (.tmp 102)) ((s15_p11_den K) s w) ((s15_p24_den K) s w)
theorem s15_p25_ok (K : Value → World → Prop) (s : Nat → Value) (w : World) (h : s15_p25 K (s 0) (s 4) (s 6) (s 14) (s 102) w) : Tr (s15_p25_den K s w) :=
  tr_cond (v := ev s (.tmp 102)) (a := (fun s w => s15_p11 K (s 0) (s 4) (s 6) w) s w) (a' := (s15_p11_den K) s w) (b := (fun s w => s15_p24 K (s 0) (s 4) (s 6) (s 14) w) s w) (b' := (s15_p24_den K) s w) (p := s15_p25 K (s 0) (s 4) (s 6) (s 14) (s 102) w) (q := s15_p25_den K s w) ((fun s w h => s15_p11_ok K s w @h) s w) ((fun s w h => s15_p24_ok K s w @h) s w) (by kernel_rfl) (by kernel_rfl) @h
def s15_p26 (K : Value → World → Prop) (t0 t4 t6 t14 : Value) (w : World) : Prop :=
  boI .eql t14 (.int .u8 3) (fun t103 w =>
  s15_p25 K t0 t4 t6 t14 t103 w) w
def s15_p26_den (K : Value → World → Prop) : (Nat → Value) → World → Prop := denL Tryd.prog [(cd (Tryd.f15.body.getD .skip) [1, 1, 0, 1, 0, 1, 1, 1, 1, 1, 1, 0])] (s15_p25_den K) (fun i => (bif Nat.beq i 0 then (s15_p1_den K) else (fun _ _ => False))) (s15_R K)
theorem s15_p26_ok (K : Value → World → Prop) (s : Nat → Value) (w : World) (h : s15_p26 K (s 0) (s 4) (s 6) (s 14) w) : Tr (s15_p26_den K s w) :=
  tr_simple (P := Tryd.prog) (codes := [(cd (Tryd.f15.body.getD .skip) [1, 1, 0, 1, 0, 1, 1, 1, 1, 1, 1, 0])]) (N := (fun s w => s15_p25 K (s 0) (s 4) (s 6) (s 14) (s 102) w)) (N' := (s15_p25_den K)) (X := (fun i => (bif Nat.beq i 0 then (fun s w => s15_p1 K (s 6) w) else (fun _ _ => False)))) (X' := (fun i => (bif Nat.beq i 0 then (s15_p1_den K) else (fun _ _ => False)))) (R := s15_R K) (s := s) (w := w) (p := s15_p26 K (s 0) (s 4) (s 6) (s 14) w) (q := s15_p26_den K s w) (fun s w h => s15_p25_ok K s w @h) (fun i => (tr_bif (fun s w h => s15_p1_ok K s w @h) tr_id)) (by kernel_rfl) (by kernel_rfl) @h
def s15_p27 (K : Value → World → Prop) (t0 t2 t4 t6 t14 t50 : Value) (w : World) : Prop :=
  ifb t50
  (s15_p10 K t0 t2 t4 t6 w)
  (s15_p26 K t0 t4 t6 t14 w)
def s15_p27_den (K : Value → World → Prop) : (Nat → Value) → World → Prop := fun s w => ifb (ev s (.tmp 50)) ((s15_p10_den K) s w) ((s15_p26_den K) s w)
theorem s15_p27_ok (K : Value → World → Prop) (s : Nat → Value) (w : World) (h : s15_p27 K (s 0) (s 2) (s 4) (s 6) (s 14) (s 50) w) : Tr (s15_p27_den K s w) :=
  tr_cond (v := ev s (.tmp 50)) (a := (fun s w => s15_p10 K (s 0) (s 2) (s 4) (s 6) w) s w) (a' := (s15_p10_den K) s w) (b := (fun s w => s15_p26 K (s 0) (s 4) (s 6) (s 14) w) s w) (b' := (s15_p26_den K) s w) (p := s15_p27 K (s 0) (s 2) (s 4) (s 6) (s 14) (s 50) w) (q := s15_p27_den K s w) ((fun s w h => s15_p10_ok K s w @h) s w) ((fun s w h => s15_p26_ok K s w @h) s w) (by kernel_rfl) (by kernel_rfl) @h
def s15_p28 (K : Value → World → Prop) (t0 t2 t4 t6 t14 : Value) (w : World) : Prop :=
  boI .eql t14 (.int .u8 2) (fun t51 w =>
  s15_p27 K t0 t2 t4 t6 t14 t51 w) w
def s15_p28_den (K : Value → World → Prop) : (Nat → Value) → World → Prop := denL Tryd.prog [(cd (Tryd.f15.body.getD .skip) [1, 1, 0, 1, 0, 1, 1, 1, 1, 0])] (s15_p27_den K) (fun i => (bif Nat.beq i 0 then (s15_p1_den K) else (fun _ _ => False))) (s15_R K)
theorem s15_p28_ok (K : Value → World → Prop) (s : Nat → Value) (w : World) (h : s15_p28 K (s 0) (s 2) (s 4) (s 6) (s 14) w) : Tr (s15_p28_den K s w) :=
  tr_simple (P := Tryd.prog) (codes := [(cd (Tryd.f15.body.getD .skip) [1, 1, 0, 1, 0, 1, 1, 1, 1, 0])]) (N := (fun s w => s15_p27 K (s 0) (s 2) (s 4) (s 6) (s 14) (s 50) w)) (N' := (s15_p27_den K)) (X := (fun i => (bif Nat.beq i 0 then (fun s w => s15_p1 K (s 6) w) else (fun _ _ => False)))) (X' := (fun i => (bif Nat.beq i 0 then (s15_p1_den K) else (fun _ _ => False)))) (R := s15_R K) (s := s) (w := w) (p := s15_p28 K (s 0) (s 2) (s 4) (s 6) (s 14) w) (q := s15_p28_den K s w) (fun s w h => s15_p27_ok K s w @h) (fun i => (tr_bif (fun s w h => s15_p1_ok K s w @h) tr_id)) (by kernel_rfl) (by kernel_rfl) @h
def s15_p29 (K : Value → World → Prop) (t0 t2 t4 t6 t14 t34 : Value) (w : World) : Prop :=
  ifb t34
  (s15_p3 K t0 t4 t6 w)
  (s15_p28 K t0 t2 t4 t6 t14 w)
def s15_p29_den (K : Value → World → Prop) : (Nat → Value) → World → Prop := fun s w => ifb (ev s (.tmp 34)) ((s15_p3_den K) s w) ((s15_p28_den K) s w)
theorem s15_p29_ok (K : Value → World → Prop) (s : Nat → Value) (w : World) (h : s15_p29 K (s 0) (s 2) (s 4) (s 6) (s 14) (s 34) w) : Tr (s15_p29_den K s w) :=
  tr_cond (v := ev s (.tmp 34)) (a := (fun s w => s15_p3 K (s 0) (s 4) (s 6) w) s w) (a' := (s15_p3_den K) s w) (b := (fun s w => s15_p28 K (s 0) (s 2) (s 4) (s 6) (s 14) w) s w) (b' := (s15_p28_den K) s w) (p := s15_p29 K (s 0) (s 2) (s 4) (s 6) (s 14) (s 34) w) (q := s15_p29_den K s w) ((fun s w h => s15_p3_ok K s w @h) s w) ((fun s w h => s15_p28_ok K s w @h) s w) (by kernel_rfl) (by kernel_rfl) @h
def s15_p30 (K : Value → World → Prop) (t0 t2 t4 t6 t14 : Value) (w : World) : Prop :=
  boI .eql t14 (.int .u8 1) (fun t35 w =>
  s15_p29 K t0 t2 t4 t6 t14 t35 w) w
def s15_p30_den (K : Value → World → Prop) : (Nat → Value) → World → Prop := denL Tryd.prog [(cd (Tryd.f15.body.getD .skip) [1, 1, 0, 1, 0, 1, 1, 0])] (s15_p29_den K) (fun i => (bif Nat.beq i 0 then (s15_p1_den K) else (fun _ _ => False))) (s15_R K)
theorem s15_p30_ok (K : Value → World → Prop) (s : Nat → Value) (w : World) (h : s15_p30 K (s 0) (s 2) (s 4) (s 6) (s 14) w) : Tr (s15_p30_den K s w) :=
  tr_simple (P := Tryd.prog) (codes := [(cd (Tryd.f15.body.getD .skip) [1, 1, 0, 1, 0, 1, 1, 0])]) (N := (fun s w => s15_p29 K (s 0) (s 2) (s 4) (s 6) (s 14) (s 34) w)) (N' := (s15_p29_den K)) (X := (fun i => (bif Nat.beq i 0 then (fun s w => s15_p1 K (s 6) w) else (fun _ _ => False)))) (X' := (fun i => (bif Nat.beq i 0 then (s15_p1_den K) else (fun _ _ => False)))) (R := s15_R K) (s := s) (w := w) (p := s15_p30 K (s 0) (s 2) (s 4) (s 6) (s 14) w) (q := s15_p30_den K s w) (fun s w h => s15_p29_ok K s w @h) (fun i => (tr_bif (fun s w h => s15_p1_ok K s w @h) tr_id)) (by kernel_rfl) (by kernel_rfl) @h
def s15_p31 (K : Value → World → Prop) (t0 t2 t4 t6 t14 t16 : Value) (w : World) : Prop :=
  ifb t16
  (s15_p2 K t0 t4 t6 w)
  (s15_p30 K t0 t2 t4 t6 t14 w)
def s15_p31_den (K : Value → World → Prop) : (Nat → Value) → World → Prop := fun s w => ifb (ev s (.tmp 16)) ((s15_p2_den K) s w) ((s15_p30_den K) s w)
theorem s15_p31_ok (K : Value → World → Prop) (s : Nat → Value) (w : World) (h : s15_p31 K (s 0) (s 2) (s 4) (s 6) (s 14) (s 16) w) : Tr (s15_p31_den K s w) :=
  tr_cond (v := ev s (.tmp 16)) (a := (fun s w => s15_p2 K (s 0) (s 4) (s 6) w) s w) (a' := (s15_p2_den K) s w) (b := (fun s w => s15_p30 K (s 0) (s 2) (s 4) (s 6) (s 14) w) s w) (b' := (s15_p30_den K) s w) (p := s15_p31 K (s 0) (s 2) (s 4) (s 6) (s 14) (s 16) w) (q := s15_p31_den K s w) ((fun s w h => s15_p2_ok K s w @h) s w) ((fun s w h => s15_p30_ok K s w @h) s w) (by kernel_rfl) (by kernel_rfl) @h
def s15_p32 (K : Value → World → Prop) (t0 t2 t4 t6 t14 : Value) (w : World) : Prop :=
  boI .eql t14 (.int .u8 0) (fun t17 w =>
  s15_p31 K t0 t2 t4 t6 t14 t17 w) w
def s15_p32_den (K : Value → World → Prop) : (Nat → Value) → World → Prop := denL Tryd.prog [(cd (Tryd.f15.body.getD .skip) [1, 1, 0, 1, 0, 0])] (s15_p31_den K) (fun i => (bif Nat.beq i 0 then (s15_p1_den K) else (fun _ _ => False))) (s15_R K)
theorem s15_p32_ok (K : Value → World → Prop) (s : Nat → Value) (w : World) (h : s15_p32 K (s 0) (s 2) (s 4) (s 6) (s 14) w) : Tr (s15_p32_den K s w) :=
  tr_simple (P := Tryd.prog) (codes := [(cd (Tryd.f15.body.getD .skip) [1, 1, 0, 1, 0, 0])]) (N := (fun s w => s15_p31 K (s 0) (s 2) (s 4) (s 6) (s 14) (s 16) w)) (N' := (s15_p31_den K)) (X := (fun i => (bif Nat.beq i 0 then (fun s w => s15_p1 K (s 6) w) else (fun _ _ => False)))) (X' := (fun i => (bif Nat.beq i 0 then (s15_p1_den K) else (fun _ _ => False)))) (R := s15_R K) (s := s) (w := w) (p := s15_p32 K (s 0) (s 2) (s 4) (s 6) (s 14) w) (q := s15_p32_den K s w) (fun s w h => s15_p31_ok K s w @h) (fun i => (tr_bif (fun s w h => s15_p1_ok K s w @h) tr_id)) (by kernel_rfl) (by kernel_rfl) @h
def s15_p33 (K : Value → World → Prop) (t0 t1 t2 : Value) (w : World) : Prop :=
  nw 33 (t1).cells (fun t4 w =>
  nw 41 #[(.int .i64 0), (.int .i64 0), (.int .u32 0), (.int .u32 0), (.int .u32 0), (.int .u32 0), (.int .u64 0), (.int .u64 0), (.slice none 0 0)] (fun t6 w =>
  fd 1 t6 (fun t12 w =>
  st1 t12 (.int .i64 (-1)) (fun w =>
  fd 0 t4 (fun t13 w =>
  ld1 t13 (fun t14 w =>
  s15_p32 K t0 t2 t4 t6 t14 w) w) w) w) w) w) w
def s15_p33_den (K : Value → World → Prop) : (Nat → Value) → World → Prop := denL Tryd.prog [(cd (Tryd.f15.body.getD .skip) [0]), (cd (Tryd.f15.body.getD .skip) [1, 0]), (cd (Tryd.f15.body.getD .skip) [1, 1, 0, 0])] (s15_p32_den K) (fun i => (fun _ _ => False)) (s15_R K)
theorem s15_p33_ok (K : Value → World → Prop) (s : Nat → Value) (w : World) (h : s15_p33 K (s 0) (s 1) (s 2) w) : Tr (s15_p33_den K s w) :=
  tr_simple (P := Tryd.prog) (codes := [(cd (Tryd.f15.body.getD .skip) [0]), (cd (Tryd.f15.body.getD .skip) [1, 0]), (cd (Tryd.f15.body.getD .skip) [1, 1, 0, 0])]) (N := (fun s w => s15_p32 K (s 0) (s 2) (s 4) (s 6) (s 14) w)) (N' := (s15_p32_den K)) (X := (fun i => (fun _ _ => False))) (X' := (fun i => (fun _ _ => False))) (R := s15_R K) (s := s) (w := w) (p := s15_p33 K (s 0) (s 1) (s 2) w) (q := s15_p33_den K s w) (fun s w h => s15_p32_ok K s w @h) (fun i => tr_id) (by kernel_rfl) (by kernel_rfl) @h
/-- the call, from the text -/
theorem c15 (t0 t1 t2 : Value) {K : Value → World → Prop} {w : World} (h : s15_p33 K t0 t1 t2 w) : cl Tryd.prog 15 #[t0, t1, t2] K w :=
  calls_of_tr (c := (Tryd.f15.body.getD .skip)) (fn := Tryd.f15) (q := s15_p33_den K (st0 #[t0, t1, t2]) w) Tryd.func15 (by kernel_rfl) (by kernel_rfl) (Nat.le_of_ble_eq_true (by kernel_rfl)) (by kernel_rfl) (by kernel_rfl) (s15_p33_ok K (st0 #[t0, t1, t2]) w @h)

/-! ### function 16 : (*e2e.pool.Table).Room -/
def s16_R (K : Value → World → Prop) (s : Nat → Value) (w : World) : Prop := retv Tryd.prog s Tryd.f16.results.toList (fun vs => K (pack vs) w) w
def s16_p1 (K : Value → World → Prop) (t2 : Value) (w : World) : Prop :=
  K t2 w
def s16_p1_den (K : Value → World → Prop) : (Nat → Value) → World → Prop := denL Tryd.prog [(cd (Tryd.f16.body.getD .skip) [1, 1])] (fun _ _ => False) (fun i => (fun _ _ => False)) (s16_R K)
theorem s16_p1_ok (K : Value → World → Prop) (s : Nat → Value) (w : World) (h : s16_p1 K (s 2) w) : Tr (s16_p1_den K s w) :=
  tr_simple (P := Tryd.prog) (codes := [(cd (Tryd.f16.body.getD .skip) [1, 1])]) (N := (fun _ _ => False)) (N' := (fun _ _ => False)) (X := (fun i => (fun _ _ => False))) (X' := (fun i => (fun _ _ => False))) (R := s16_R K) (s := s) (w := w) (p := s16_p1 K (s 2) w) (q := s16_p1_den K s w) tr_id (fun i => tr_id) (by kernel_rfl) (by kernel_rfl) @h
def s16_p2_d (K : Value → World → Prop) (t0 : Value) (w0 w : World) : Prop :=
  nck t0 (fun t4 _ =>
  fd 4 t4 (fun t5 _ =>
  ld1 t5 (fun t6 _ =>
  nck t0 (fun t8 _ =>
  fd 3 t8 (fun t9 _ =>
  ld1 t9 (fun t10 _ =>
  boI .sub t6 t10 (fun t11 _ =>
  s16_p1 K t11 w) w0) w0) w0) w0) w0) w0) w0
def s16_p2 (K : Value → World → Prop) (t0 : Value) (w : World) : Prop := s16_p2_d K t0 (drw w) (drw w)
def s16_p2_den (K : Value → World → Prop) : (Nat → Value) → World → Prop := denL Tryd.prog [(cd (Tryd.f16.body.getD .skip) [1, 0])] (s16_p1_den K) (fun i => (fun _ _ => False)) (s16_R K)
theorem s16_p2_ok (K : Value → World → Prop) (s : Nat → Value) (w : World) (h : s16_p2 K (s 0) w) : Tr (s16_p2_den K s w) :=
  tr_draw (P := Tryd.prog) (ops := (ro (cd (Tryd.f16.body.getD .skip) [1, 0]))) (ms := [0, 1, 3, 7, 0, 16, 48, 112, 255, 511]) (cs := [0, 1, 2, 3, 4, 5, 6, 7, 8, 9]) (N := (fun s w => s16_p1 K (s 2) w)) (N' := (s16_p1_den K)) (s := s) (w := w) (p := s16_p2 K (s 0) w) (q := s16_p2_den K s w) (by kernel_rfl) (by kernel_rfl) (fun s w h => s16_p1_ok K s w @h) (by kernel_rfl) (by kernel_rfl) @h
def s16_p3 (K : Value → World → Prop) (t0 : Value) (w : World) : Prop :=
  s16_p2 K t0 w
def s16_p3_den (K : Value → World → Prop) : (Nat → Value) → World → Prop := denL Tryd.prog [(cd (Tryd.f16.body.getD .skip) [0])] (s16_p2_den K) (fun i => (fun _ _ => False)) (s16_R K)
theorem s16_p3_ok (K : Value → World → Prop) (s : Nat → Value) (w : World) (h : s16_p3 K (s 0) w) : Tr (s16_p3_den K s w) :=
  tr_simple (P := Tryd.prog) (codes := [(cd (Tryd.f16.body.getD .skip) [0])]) (N := (fun s w => s16_p2 K (s 0) w)) (N' := (s16_p2_den K)) (X := (fun i => (fun _ _ => False))) (X' := (fun i => (fun _ _ => False))) (R := s16_R K) (s := s) (w := w) (p := s16_p3 K (s 0) w) (q := s16_p3_den K s w) (fun s w h => s16_p2_ok K s w @h) (fun i => tr_id) (by kernel_rfl) (by kernel_rfl) @h
/-- the call, from the text -/
theorem c16 (t0 : Value) {K : Value → World → Prop} {w : World} (h : s16_p3 K t0 w) : cl Tryd.prog 16 #[t0] K w :=
  calls_of_tr (c := (Tryd.f16.body.getD .skip)) (fn := Tryd.f16) (q := s16_p3_den K (st0 #[t0]) w) Tryd.func16 (by kernel_rfl) (by kernel_rfl) (Nat.le_of_ble_eq_true (by kernel_rfl)) (by kernel_rfl) (by kernel_rfl) (s16_p3_ok K (st0 #[t0]) w @h)

/-! ### function 17 : (*e2e.pool.Table).Pools -/
def s17_R (K : Value → World → Prop) (s : Nat → Value) (w : World) : Prop := retv Tryd.prog s Tryd.f17.results.toList (fun vs => K (pack vs) w) w
def s17_p1 (K : Value → World → Prop) (t0 : Value) (w : World) : Prop :=
  nck t0 (fun t4 w =>
  fd 5 t4 (fun t5 w =>
  ld1 t5 (fun t6 w =>
  lnS t6 (fun t7 w =>
  K t7 w) w) w) w) w
def s17_p1_den (K : Value → World → Prop) : (Nat → Value) → World → Prop := denL Tryd.prog [(cd (Tryd.f17.body.getD .skip) [0]), (cd (Tryd.f17.body.getD .skip) [1, 0]), (cd (Tryd.f17.body.getD .skip) [1, 1])] (fun _ _ => False) (fun i => (fun _ _ => False)) (s17_R K)
theorem s17_p1_ok (K : Value → World → Prop) (s : Nat → Value) (w : World) (h : s17_p1 K (s 0) w) : Tr (s17_p1_den K s w) :=
  tr_simple (P := Tryd.prog) (codes := [(cd (Tryd.f17.body.getD .skip) [0]), (cd (Tryd.f17.body.getD .skip) [1, 0]), (cd (Tryd.f17.body.getD .skip) [1, 1])]) (N := (fun _ _ => False)) (N' := (fun _ _ => False)) (X := (fun i => (fun _ _ => False))) (X' := (fun i => (fun _ _ => False))) (R := s17_R K) (s := s) (w := w) (p := s17_p1 K (s 0) w) (q := s17_p1_den K s w) tr_id (fun i => tr_id) (by kernel_rfl) (by kernel_rfl) @h
/-- the call, from the text -/
theorem c17 (t0 : Value) {K : Value → World → Prop} {w : World} (h : s17_p1 K t0 w) : cl Tryd.prog 17 #[t0] K w :=
  calls_of_tr (c := (Tryd.f17.body.getD .skip)) (fn := Tryd.f17) (q := s17_p1_den K (st0 #[t0]) w) Tryd.func17 (by kernel_rfl) (by kernel_rfl) (Nat.le_of_ble_eq_true (by kernel_rfl)) (by kernel_rfl) (by kernel_rfl) (s17_p1_ok K (st0 #[t0]) w @h)

/-! ### function 18 : (*e2e.poollaw.world).owner -/
def s18_R (K : Value → World → Prop) (s : Nat → Value) (w : World) : Prop := retv Tryd.prog s Tryd.f18.results.toList (fun vs => K (pack vs) w) w
def s18_p1 (K : Value → World → Prop) (w : World) : Prop :=
  K (.int .i64 (-1)) w
def s18_p1_den (K : Value → World → Prop) : (Nat → Value) → World → Prop := denL Tryd.prog [(cd (Tryd.f18.body.getD .skip) [1, 1, 0]), (cd (Tryd.f18.body.getD .skip) [1, 1, 1])] (fun _ _ => False) (fun i => (fun _ _ => False)) (s18_R K)
theorem s18_p1_ok (K : Value → World → Prop) (s : Nat → Value) (w : World) (h : s18_p1 K w) : Tr (s18_p1_den K s w) :=
  tr_simple (P := Tryd.prog) (codes := [(cd (Tryd.f18.body.getD .skip) [1, 1, 0]), (cd (Tryd.f18.body.getD .skip) [1, 1, 1])]) (N := (fun _ _ => False)) (N' := (fun _ _ => False)) (X := (fun i => (fun _ _ => False))) (X' := (fun i => (fun _ _ => False))) (R := s18_R K) (s := s) (w := w) (p := s18_p1 K w) (q := s18_p1_den K s w) tr_id (fun i => tr_id) (by kernel_rfl) (by kernel_rfl) @h
def s18_p2 (K : Value → World → Prop) (B1 : List Value → World → Prop) (t0 t1 t15 t16 : Value) (w : World) : Prop :=
  boI .add t16 (.int .i64 1) (fun t49 w =>
  B1 [t0, t1, t15, t49] w) w
def s18_p2_den (K : Value → World → Prop) (M1 : (Nat → Value) → World → Prop) : (Nat → Value) → World → Prop := denL Tryd.prog [(cd (Tryd.f18.body.getD .skip) [1, 0, 1, 0, 0, 1, 1, 1])] M1 (fun i => (bif Nat.beq i 0 then (s18_p1_den K) else (fun _ _ => False))) (s18_R K)
theorem s18_p2_ok (K : Value → World → Prop) (B1 : List Value → World → Prop) (s : Nat → Value) (w : World) (h : s18_p2 K B1 (s 0) (s 1) (s 15) (s 16) w) : Tr (s18_p2_den K (fun s w => B1 [s 0, s 1, s 15, s 16] w) s w) :=
  tr_simple (P := Tryd.prog) (codes := [(cd (Tryd.f18.body.getD .skip) [1, 0, 1, 0, 0, 1, 1, 1])]) (N := (fun s w => B1 [s 0, s 1, s 15, s 16] w)) (N' := (fun s w => B1 [s 0, s 1, s 15, s 16] w)) (X := (fun i => (bif Nat.beq i 0 then (fun s w => s18_p1 K w) else (fun _ _ => False)))) (X' := (fun i => (bif Nat.beq i 0 then (s18_p1_den K) else (fun _ _ => False)))) (R := s18_R K) (s := s) (w := w) (p := s18_p2 K B1 (s 0) (s 1) (s 15) (s 16) w) (q := s18_p2_den K (fun s w => B1 [s 0, s 1, s 15, s 16] w) s w) tr_id (fun i => (tr_bif (fun s w h => s18_p1_ok K s w @h) tr_id)) (by kernel_rfl) (by kernel_rfl) @h
def s18_p3 (K : Value → World → Prop) (B1 : List Value → World → Prop) (t0 t1 t5 t15 t16 t47 : Value) (w : World) : Prop :=
  ifb t47
  (K t5 w)
  (s18_p2 K B1 t0 t1 t15 t16 w)
def s18_p3_den (K : Value → World → Prop) (M1 : (Nat → Value) → World → Prop) : (Nat → Value) → World → Prop := denL Tryd.prog [(cd (Tryd.f18.body.getD .skip) [1, 0, 1, 0, 0, 1, 1, 0, 0, 1, 1, 1, 1])] (s18_p2_den K M1) (fun i => (bif Nat.beq i 1 then (s18_p2_den K M1) else (bif Nat.beq i 0 then (s18_p1_den K) else (fun _ _ => False)))) (s18_R K)
theorem s18_p3_ok (K : Value → World → Prop) (B1 : List Value → World → Prop) (s : Nat → Value) (w : World) (h : s18_p3 K B1 (s 0) (s 1) (s 5) (s 15) (s 16) (s 47) w) : Tr (s18_p3_den K (fun s w => B1 [s 0, s 1, s 15, s 16] w) s w) :=
  tr_simple (P := Tryd.prog) (codes := [(cd (Tryd.f18.body.getD .skip) [1, 0, 1, 0, 0, 1, 1, 0, 0, 1, 1, 1, 1])]) (N := (fun s w => s18_p2 K B1 (s 0) (s 1) (s 15) (s 16) w)) (N' := (s18_p2_den K (fun s w => B1 [s 0, s 1, s 15, s 16] w))) (X := (fun i => (bif Nat.beq i 1 then (fun s w => s18_p2 K B1 (s 0) (s 1) (s 15) (s 16) w) else (bif Nat.beq i 0 then (fun s w => s18_p1 K w) else (fun _ _ => False))))) (X' := (fun i => (bif Nat.beq i 1 then (s18_p2_den K (fun s w => B1 [s 0, s 1, s 15, s 16] w)) else (bif Nat.beq i 0 then (s18_p1_den K) else (fun _ _ => False))))) (R := s18_R K) (s := s) (w := w) (p := s18_p3 K B1 (s 0) (s 1) (s 5) (s 15) (s 16) (s 47) w) (q := s18_p3_den K (fun s w => B1 [s 0, s 1, s 15, s 16] w) s w) (fun s w h => s18_p2_ok K B1 s w @h) (fun i => (tr_bif (fun s w h => s18_p2_ok K B1 s w @h) (tr_bif (fun s w h => s18_p1_ok K s w @h) tr_id))) (by kernel_rfl) (by kernel_rfl) @h
def s18_p4_d (K : Value → World → Prop) (B1 : List Value → World → Prop) (t0 t1 t5 t6 t7 t15 t16 : Value) (w0 w : World) : Prop :=
  boI .geq t7 (.int .i64 0) (fun t34 _ =>
  gd t34 true (fun K w => K t7 w) (fun t36 _ =>
  gd t34 true (fun K w => K t6 w) (fun t37 _ =>
  gd t34 true (nck t37) (fun t38 _ =>
  gd t34 true (fd 1 t38) (fun t39 _ =>
  gd t34 true (ld1 t39) (fun t40 _ =>
  gd t34 true (fun K w => K t6 w) (fun t41 _ =>
  gd t34 true (nck t41) (fun t42 _ =>
  gd t34 true (fd 0 t42) (fun t43 _ =>
  gd t34 true (ld1 t43) (fun t44 _ =>
  gd t34 true (boI .mul t40 t44) (fun t45 _ =>
  gd t34 true (boI .lss t36 t45) (fun t46 _ =>
  pk t34 t46 (.bool false) (fun t47 _ =>
  s18_p3 K B1 t0 t1 t5 t15 t16 t47 w) w0) w0) w0) w0) w0) w0) w0) w0) w0) w0) w0) w0) w0
def s18_p4 (K : Value → World → Prop) (B1 : List Value → World → Prop) (t0 t1 t5 t6 t7 t15 t16 : Value) (w : World) : Prop := s18_p4_d K B1 t0 t1 t5 t6 t7 t15 t16 (drw w) (drw w)
def s18_p4_den (K : Value → World → Prop) (M1 : (Nat → Value) → World → Prop) : (Nat → Value) → World → Prop := denL Tryd.prog [(cd (Tryd.f18.body.getD .skip) [1, 0, 1, 0, 0, 1, 1, 0, 0, 1, 1, 1, 0])] (s18_p3_den K M1) (fun i => (bif Nat.beq i 1 then (s18_p2_den K M1) else (bif Nat.beq i 0 then (s18_p1_den K) else (fun _ _ => False)))) (s18_R K)
theorem s18_p4_ok (K : Value → World → Prop) (B1 : List Value → World → Prop) (s : Nat → Value) (w : World) (h : s18_p4 K B1 (s 0) (s 1) (s 5) (s 6) (s 7) (s 15) (s 16) w) : Tr (s18_p4_den K (fun s w => B1 [s 0, s 1, s 15, s 16] w) s w) :=
  tr_draw (P := Tryd.prog) (ops := (ro (cd (Tryd.f18.body.getD .skip) [1, 0, 1, 0, 0, 1, 1, 0, 0, 1, 1, 1, 0]))) (ms := [0, 1, 3, 7, 7, 23, 55, 119, 7, 263, 775, 1799, 4087, 8191, 16383]) (cs := [0, 1, 2, 3, 4, 5, 6, 7, 8, 9, 10, 11, 12, 13, 14]) (N := (fun s w => s18_p3 K B1 (s 0) (s 1) (s 5) (s 15) (s 16) (s 47) w)) (N' := (s18_p3_den K (fun s w => B1 [s 0, s 1, s 15, s 16] w))) (s := s) (w := w) (p := s18_p4 K B1 (s 0) (s 1) (s 5) (s 6) (s 7) (s 15) (s 16) w) (q := s18_p4_den K (fun s w => B1 [s 0, s 1, s 15, s 16] w) s w) (by kernel_rfl) (by kernel_rfl) (fun s w h => s18_p3_ok K B1 s w @h) (by kernel_rfl) (by kernel_rfl) @h
def s18_p5 (K : Value → World → Prop) (B1 : List Value → World → Prop) (t0 t1 t15 t16 : Value) (w : World) : Prop :=
  nck t0 (fun t20 w =>
  fd 2 t20 (fun t21 w =>
  ld1 t21 (fun t22 w =>
  nck t22 (fun t23 w =>
  fd 1 t23 (fun t24 w =>
  ld1 t24 (fun t25 w =>
  ixs 1 t25 t16 (fun t27 w =>
  ld1 t27 (fun t28 w =>
  cl Tryd.prog 19 #[t0, t16, t1] (fun t32 w =>
  s18_p4 K B1 t0 t1 t16 t28 t32 t15 t16 w) w) w) w) w) w) w) w) w) w
def s18_p5_den (K : Value → World → Prop) (M1 : (Nat → Value) → World → Prop) : (Nat → Value) → World → Prop := denL Tryd.prog [(cd (Tryd.f18.body.getD .skip) [1, 0, 1, 0, 0, 1, 1, 0, 0, 0]), (cd (Tryd.f18.body.getD .skip) [1, 0, 1, 0, 0, 1, 1, 0, 0, 1, 0]), (cd (Tryd.f18.body.getD .skip) [1, 0, 1, 0, 0, 1, 1, 0, 0, 1, 1, 0])] (s18_p4_den K M1) (fun i => (bif Nat.beq i 1 then (s18_p2_den K M1) else (bif Nat.beq i 0 then (s18_p1_den K) else (fun _ _ => False)))) (s18_R K)
theorem s18_p5_ok (K : Value → World → Prop) (B1 : List Value → World → Prop) (s : Nat → Value) (w : World) (h : s18_p5 K B1 (s 0) (s 1) (s 15) (s 16) w) : Tr (s18_p5_den K (fun s w => B1 [s 0, s 1, s 15, s 16] w) s w) :=
  tr_simple (P := Tryd.prog) (codes := [(cd (Tryd.f18.body.getD .skip) [1, 0, 1, 0, 0, 1, 1, 0, 0, 0]), (cd (Tryd.f18.body.getD .skip) [1, 0, 1, 0, 0, 1, 1, 0, 0, 1, 0]), (cd (Tryd.f18.body.getD .skip) [1, 0, 1, 0, 0, 1, 1, 0, 0, 1, 1, 0])]) (N := (fun s w => s18_p4 K B1 (s 0) (s 1) (s 5) (s 6) (s 7) (s 15) (s 16) w)) (N' := (s18_p4_den K (fun s w => B1 [s 0, s 1, s 15, s 16] w))) (X := (fun i => (bif Nat.beq i 1 then (fun s w => s18_p2 K B1 (s 0) (s 1) (s 15) (s 16) w) else (bif Nat.beq i 0 then (fun s w => s18_p1 K w) else (fun _ _ => False))))) (X' := (fun i => (bif Nat.beq i 1 then (s18_p2_den K (fun s w => B1 [s 0, s 1, s 15, s 16] w)) else (bif Nat.beq i 0 then (s18_p1_den K) else (fun _ _ => False))))) (R := s18_R K) (s := s) (w := w) (p := s18_p5 K B1 (s 0) (s 1) (s 15) (s 16) w) (q := s18_p5_den K (fun s w => B1 [s 0, s 1, s 15, s 16] w) s w) (fun s w h => s18_p4_ok K B1 s w @h) (fun i => (tr_bif (fun s w h => s18_p2_ok K B1 s w @h) (tr_bif (fun s w h => s18_p1_ok K s w @h) tr_id))) (by kernel_rfl) (by kernel_rfl) @h
def s18_p6 (K : Value → World → Prop) (B1 : List Value → World → Prop) (t0 t1 t15 t16 : Value) (w : World) : Prop :=
  boI .lss t16 t15 (fun t17 w =>
  ifb t17
  (s18_p5 K B1 t0 t1 t15 t16 w)
  (s18_p1 K w)) w
def s18_p6_den (K : Value → World → Prop) (M1 : (Nat → Value) → World → Prop) : (Nat → Value) → World → Prop := denL Tryd.prog [(cd (Tryd.f18.body.getD .skip) [1, 0, 1, 0, 0, 0]), (cd (Tryd.f18.body.getD .skip) [1, 0, 1, 0, 0, 1, 0])] (s18_p5_den K M1) (fun i => (bif Nat.beq i 0 then (s18_p1_den K) else (fun _ _ => False))) (s18_R K)
theorem s18_p6_ok (K : Value → World → Prop) (B1 : List Value → World → Prop) (s : Nat → Value) (w : World) (h : s18_p6 K B1 (s 0) (s 1) (s 15) (s 16) w) : Tr (s18_p6_den K (fun s w => B1 [s 0, s 1, s 15, s 16] w) s w) :=
  tr_simple (P := Tryd.prog) (codes := [(cd (Tryd.f18.body.getD .skip) [1, 0, 1, 0, 0, 0]), (cd (Tryd.f18.body.getD .skip) [1, 0, 1, 0, 0, 1, 0])]) (N := (fun s w => s18_p5 K B1 (s 0) (s 1) (s 15) (s 16) w)) (N' := (s18_p5_den K (fun s w => B1 [s 0, s 1, s 15, s 16] w))) (X := (fun i => (bif Nat.beq i 0 then (fun s w => s18_p1 K w) else (fun _ _ => False)))) (X' := (fun i => (bif Nat.beq i 0 then (s18_p1_den K) else (fun _ _ => False)))) (R := s18_R K) (s := s) (w := w) (p := s18_p6 K B1 (s 0) (s 1) (s 15) (s 16) w) (q := s18_p6_den K (fun s w => B1 [s 0, s 1, s 15, s 16] w) s w) (fun s w h => s18_p5_ok K B1 s w @h) (fun i => (tr_bif (fun s w h => s18_p1_ok K s w @h) tr_id)) (by kernel_rfl) (by kernel_rfl) @h
def s18_p7_F (K : Value → World → Prop) (B1 : List Value → World → Prop) (l : List Value) (w : World) : Prop :=
  match l with
  | [t0, t1, t15, t16] => s18_p6 K B1 t0 t1 t15 t16 w
  | _ => False
theorem s18_p7_Fe {K : Value → World → Prop} {B1 : List Value → World → Prop} {t0 t1 t15 t16 : Value} {w : World} : s18_p7_F K B1 [t0, t1, t15, t16] w = s18_p6 K B1 t0 t1 t15 t16 w := by kernel_rfl
def s18_p7 (K : Value → World → Prop) (t0 t1 t15 t16 : Value) (w : World) : Prop :=
  LoopL (s18_p7_F K) [t0, t1, t15, t16] w
def s18_p7_den (K : Value → World → Prop) : (Nat → Value) → World → Prop := fun s w => LoopP (fun M1 s w => s18_p6_den K M1 s w) s w
theorem s18_p7_ok (K : Value → World → Prop) (s : Nat → Value) (w : World) (h : s18_p7 K (s 0) (s 1) (s 15) (s 16) w) : Tr (s18_p7_den K s w) :=
  tr_loop (G := fun N' s w => s18_p6_den K N' s w) (F := s18_p7_F K) (sel := fun s => [s 0, s 1, s 15, s 16]) (s := s) (w := w) (p := s18_p7 K (s 0) (s 1) (s 15) (s 16) w) (q := s18_p7_den K s w) (fun B s w h => s18_p6_ok K B s w @h) (by kernel_rfl) (by kernel_rfl) @h
def s18_p8 (K : Value → World → Prop) (t0 t1 : Value) (w : World) : Prop :=
  nck t0 (fun t9 w =>
  fd 2 t9 (fun t10 w =>
  ld1 t10 (fun t11 w =>
  nck t11 (fun t12 w =>
  fd 1 t12 (fun t13 w =>
  ld1 t13 (fun t14 w =>
  lnS t14 (fun t15 w =>
  s18_p7 K t0 t1 t15 (.int .i64 0) w) w) w) w) w) w) w) w
def s18_p8_den (K : Value → World → Prop) : (Nat → Value) → World → Prop := denL Tryd.prog [(cd (Tryd.f18.body.getD .skip) [0]), (cd (Tryd.f18.body.getD .skip) [1, 0, 0])] (s18_p7_den K) (fun i => (fun _ _ => False)) (s18_R K)
theorem s18_p8_ok (K : Value → World → Prop) (s : Nat → Value) (w : World) (h : s18_p8 K (s 0) (s 1) w) : Tr (s18_p8_den K s w) :=
  tr_simple (P := Tryd.prog) (codes := [(cd (Tryd.f18.body.getD .skip) [0]), (cd (Tryd.f18.body.getD .skip) [1, 0, 0])]) (N := (fun s w => s18_p7 K (s 0) (s 1) (s 15) (s 16) w)) (N' := (s18_p7_den K)) (X := (fun i => (fun _ _ => False))) (X' := (fun i => (fun _ _ => False))) (R := s18_R K) (s := s) (w := w) (p := s18_p8 K (s 0) (s 1) w) (q := s18_p8_den K s w) (fun s w h => s18_p7_ok K s w @h) (fun i => tr_id) (by kernel_rfl) (by kernel_rfl) @h
/-- the call, from the text -/
theorem c18 (t0 t1 : Value) {K : Value → World → Prop} {w : World} (h : s18_p8 K t0 t1 w) : cl Tryd.prog 18 #[t0, t1] K w :=
  calls_of_tr (c := (Tryd.f18.body.getD .skip)) (fn := Tryd.f18) (q := s18_p8_den K (st0 #[t0, t1]) w) Tryd.func18 (by kernel_rfl) (by kernel_rfl) (Nat.le_of_ble_eq_true (by kernel_rfl)) (by kernel_rfl) (by kernel_rfl) (s18_p8_ok K (st0 #[t0, t1]) w @h)

/-! ### function 19 : (*e2e.poollaw.world).offset -/
def s19_R (K : Value → World → Prop) (s : Nat → Value) (w : World) : Prop := retv Tryd.prog s Tryd.f19.results.toList (fun vs => K (pack vs) w) w
def s19_p1 (K : Value → World → Prop) (t0 t1 t2 : Value) (w : World) : Prop :=
  nck t0 (fun t11 w =>
  fd 1 t11 (fun t12 w =>
  ld1 t12 (fun t13 w =>
  cl Tryd.prog 22 #[t13, t1] (fun t15 w =>
  exq t15 0 (fun t16 w =>
  exq t15 1 (fun t17 w =>
  nw 68 #[(.int .u32 0), (.int .u32 0), (.int .u32 0)] (fun t7 w =>
  stn 3 t7 t16 (fun w =>
  cvi .i64 t2 (fun t19 w =>
  fd 0 t7 (fun t20 w =>
  ld1 t20 (fun t21 w =>
  cvi .i64 t21 (fun t22 w =>
  boI .sub t19 t22 (fun t23 w =>
  K t23 w) w) w) w) w) w) w) w) w) w) w) w) w) w
def s19_p1_den (K : Value → World → Prop) : (Nat → Value) → World → Prop := denL Tryd.prog [(cd (Tryd.f19.body.getD .skip) [0]), (cd (Tryd.f19.body.getD .skip) [1, 0]), (cd (Tryd.f19.body.getD .skip) [1, 1, 0]), (cd (Tryd.f19.body.getD .skip) [1, 1, 1])] (fun _ _ => False) (fun i => (fun _ _ => False)) (s19_R K)
theorem s19_p1_ok (K : Value → World → Prop) (s : Nat → Value) (w : World) (h : s19_p1 K (s 0) (s 1) (s 2) w) : Tr (s19_p1_den K s w) :=
  tr_simple (P := Tryd.prog) (codes := [(cd (Tryd.f19.body.getD .skip) [0]), (cd (Tryd.f19.body.getD .skip) [1, 0]), (cd (Tryd.f19.body.getD .skip) [1, 1, 0]), (cd (Tryd.f19.body.getD .skip) [1, 1, 1])]) (N := (fun _ _ => False)) (N' := (fun _ _ => False)) (X := (fun i => (fun _ _ => False))) (X' := (fun i => (fun _ _ => False))) (R := s19_R K) (s := s) (w := w) (p := s19_p1 K (s 0) (s 1) (s 2) w) (q := s19_p1_den K s w) tr_id (fun i => tr_id) (by kernel_rfl) (by kernel_rfl) @h
/-- the call, from the text -/
theorem c19 (t0 t1 t2 : Value) {K : Value → World → Prop} {w : World} (h : s19_p1 K t0 t1 t2 w) : cl Tryd.prog 19 #[t0, t1, t2] K w :=
  calls_of_tr (c := (Tryd.f19.body.getD .skip)) (fn := Tryd.f19) (q := s19_p1_den K (st0 #[t0, t1, t2]) w) Tryd.func19 (by kernel_rfl) (by kernel_rfl) (Nat.le_of_ble_eq_true (by kernel_rfl)) (by kernel_rfl) (by kernel_rfl) (s19_p1_ok K (st0 #[t0, t1, t2]) w @h)

/-! ### function 20 : e2e.poollaw.withinBound -/
def s20_R (K : Value → World → Prop) (s : Nat → Value) (w : World) : Prop := retv Tryd.prog s Tryd.f20.results.toList (fun vs => K (pack vs) w) w
def s20_p1 (K : Value → World → Prop) (t0 t1 : Value) (w : World) : Prop :=
  boI .eql t0 (.int .u8 2) (fun t7 w =>
  ifb t7
  (boI .leq t1 (.int .u64 11) (fun t9 w =>
  K t9 w) w)
  (boI .eql t0 (.int .u8 3) (fun t11 w =>
  ifb t11
  (boI .leq t1 (.int .u64 9) (fun t13 w =>
  K t13 w) w)
  (boI .eql t0 (.int .u8 4) (fun t15 w =>
  ifb t15
  (boI .leq t1 (.int .u64 13) (fun t17 w =>
  K t17 w) w)
  (boI .eql t0 (.int .u8 5) (fun t19 w =>
  ifb t19
  (boI .leq t1 (.int .u64 4) (fun t21 w =>
  K t21 w) w)
  (boI .eql t0 (.int .u8 6) (fun t23 w =>
  ifb t23
  (boI .leq t1 (.int .u64 4) (fun t25 w =>
  K t25 w) w)
  (K (.bool true) w)) w)) w)) w)) w)) w
def s20_p1_den (K : Value → World → Prop) : (Nat → Value) → World → Prop := denL Tryd.prog [(cd (Tryd.f20.body.getD .skip) [0]), (cd (Tryd.f20.body.getD .skip) [1, 0, 0]), (cd (Tryd.f20.body.getD .skip) [1, 0, 1]), (cd (Tryd.f20.body.getD .skip) [1, 1, 0]), (cd (Tryd.f20.body.getD .skip) [1, 1, 1])] (fun _ _ => False) (fun i => (fun _ _ => False)) (s20_R K)
theorem s20_p1_ok (K : Value → World → Prop) (s : Nat → Value) (w : World) (h : s20_p1 K (s 0) (s 1) w) : Tr (s20_p1_den K s w) :=
  tr_simple (P := Tryd.prog) (codes := [(cd (Tryd.f20.body.getD .skip) [0]), (cd (Tryd.f20.body.getD .skip) [1, 0, 0]), (cd (Tryd.f20.body.getD .skip) [1, 0, 1]), (cd (Tryd.f20.body.getD .skip) [1, 1, 0]), (cd (Tryd.f20.body.getD .skip) [1, 1, 1])]) (N := (fun _ _ => False)) (N' := (fun _ _ => False)) (X := (fun i => (fun _ _ => False))) (X' := (fun i => (fun _ _ => False))) (R := s20_R K) (s := s) (w := w) (p := s20_p1 K (s 0) (s 1) w) (q := s20_p1_den K s w) tr_id (fun i => tr_id) (by kernel_rfl) (by kernel_rfl) @h
/-- the call, from the text -/
theorem c20 (t0 t1 : Value) {K : Value → World → Prop} {w : World} (h : s20_p1 K t0 t1 w) : cl Tryd.prog 20 #[t0, t1] K w :=
  calls_of_tr (c := (Tryd.f20.body.getD .skip)) (fn := Tryd.f20) (q := s20_p1_den K (st0 #[t0, t1]) w) Tryd.func20 (by kernel_rfl) (by kernel_rfl) (Nat.le_of_ble_eq_true (by kernel_rfl)) (by kernel_rfl) (by kernel_rfl) (s20_p1_ok K (st0 #[t0, t1]) w @h)

/-! ### function 21 : (*e2e.poollaw.world).inRegion -/
def s21_R (K : Value → World → Prop) (s : Nat → Value) (w : World) : Prop := retv Tryd.prog s Tryd.f21.results.toList (fun vs => K (pack vs) w) w
def s21_p1 (K : Value → World → Prop) (t0 t1 : Value) (w : World) : Prop :=
  nck t0 (fun t7 w =>
  fd 1 t7 (fun t8 w =>
  ld1 t8 (fun t9 w =>
  cl Tryd.prog 45 #[t9] (fun t10 w =>
  nw 83 #[(.int .u32 0), (.int .u32 0)] (fun t5 w =>
  stn 2 t5 t10 (fun w =>
  fd 0 t5 (fun t12 w =>
  ld1 t12 (fun t13 w =>
  boI .geq t1 t13 (fun t14 w =>
  gd t14 true (fun K w => K t1 w) (fun t16 w =>
  gd t14 true (cvi .u64 t16) (fun t17 w =>
  gd t14 true (fd 0 t5) (fun t18 w =>
  gd t14 true (ld1 t18) (fun t19 w =>
  gd t14 true (cvi .u64 t19) (fun t20 w =>
  gd t14 true (fd 1 t5) (fun t21 w =>
  gd t14 true (ld1 t21) (fun t22 w =>
  gd t14 true (cvi .u64 t22) (fun t23 w =>
  gd t14 true (boI .add t20 t23) (fun t24 w =>
  gd t14 true (boI .lss t17 t24) (fun t25 w =>
  pk t14 t25 (.bool false) (fun t26 w =>
  K t26 w) w) w) w) w) w) w) w) w) w) w) w) w) w) w) w) w) w) w) w) w
def s21_p1_den (K : Value → World → Prop) : (Nat → Value) → World → Prop := denL Tryd.prog [(cd (Tryd.f21.body.getD .skip) [0]), (cd (Tryd.f21.body.getD .skip) [1, 0]), (cd (Tryd.f21.body.getD .skip) [1, 1, 0]), (cd (Tryd.f21.body.getD .skip) [1, 1, 1])] (fun _ _ => False) (fun i => (fun _ _ => False)) (s21_R K)
theorem s21_p1_ok (K : Value → World → Prop) (s : Nat → Value) (w : World) (h : s21_p1 K (s 0) (s 1) w) : Tr (s21_p1_den K s w) :=
  tr_simple (P := Tryd.prog) (codes := [(cd (Tryd.f21.body.getD .skip) [0]), (cd (Tryd.f21.body.getD .skip) [1, 0]), (cd (Tryd.f21.body.getD .skip) [1, 1, 0]), (cd (Tryd.f21.body.getD .skip) [1, 1, 1])]) (N := (fun _ _ => False)) (N' := (fun _ _ => False)) (X := (fun i => (fun _ _ => False))) (X' := (fun i => (fun _ _ => False))) (R := s21_R K) (s := s) (w := w) (p := s21_p1 K (s 0) (s 1) w) (q := s21_p1_den K s w) tr_id (fun i => tr_id) (by kernel_rfl) (by kernel_rfl) @h
/-- the call, from the text -/
theorem c21 (t0 t1 : Value) {K : Value → World → Prop} {w : World} (h : s21_p1 K t0 t1 w) : cl Tryd.prog 21 #[t0, t1] K w :=
  calls_of_tr (c := (Tryd.f21.body.getD .skip)) (fn := Tryd.f21) (q := s21_p1_den K (st0 #[t0, t1]) w) Tryd.func21 (by kernel_rfl) (by kernel_rfl) (Nat.le_of_ble_eq_true (by kernel_rfl)) (by kernel_rfl) (by kernel_rfl) (s21_p1_ok K (st0 #[t0, t1]) w @h)

/-! ### function 22 : (*e2e.pool.Table).Info -/
def s22_R (K : Value → World → Prop) (s : Nat → Value) (w : World) : Prop := retv Tryd.prog s Tryd.f22.results.toList (fun vs => K (pack vs) w) w
def s22_p1 (K : Value → World → Prop) (t4 t5 : Value) (w : World) : Prop :=
  ldn 3 t4 (fun r0 _ =>
  K (.tuple #[r0, t5]) w) w
def s22_p1_den (K : Value → World → Prop) : (Nat → Value) → World → Prop := denL Tryd.prog [(cd (Tryd.f22.body.getD .skip) [1, 1, 1, 1])] (fun _ _ => False) (fun i => (fun _ _ => False)) (s22_R K)
theorem s22_p1_ok (K : Value → World → Prop) (s : Nat → Value) (w : World) (h : s22_p1 K (s 4) (s 5) w) : Tr (s22_p1_den K s w) :=
  tr_simple (P := Tryd.prog) (codes := [(cd (Tryd.f22.body.getD .skip) [1, 1, 1, 1])]) (N := (fun _ _ => False)) (N' := (fun _ _ => False)) (X := (fun i => (fun _ _ => False))) (X' := (fun i => (fun _ _ => False))) (R := s22_R K) (s := s) (w := w) (p := s22_p1 K (s 4) (s 5) w) (q := s22_p1_den K s w) tr_id (fun i => tr_id) (by kernel_rfl) (by kernel_rfl) @h
def s22_p2_d (K : Value → World → Prop) (t4 t6 : Value) (w0 w : World) : Prop :=
  nck t6 (fun t19 _ =>
  fd 2 t19 (fun t20 _ =>
  ld1 t20 (fun t21 _ =>
  nck t6 (fun t23 _ =>
  fd 4 t23 (fun t24 _ =>
  ld1 t24 (fun t25 _ =>
  nck t6 (fun t27 _ =>
  fd 5 t27 (fun t28 _ =>
  ld1 t28 (fun t29 _ =>
  bdq [(.int .u32 0), (.int .u32 0), (.int .u32 0)] [(some (0, 1), t21), (some (1, 1), t25), (some (2, 1), t29)] (fun t30 _ =>
  stn 3 t4 t30 (fun w =>
  s22_p1 K t4 (.int .i64 0) w) w) w0) w0) w0) w0) w0) w0) w0) w0) w0) w0
def s22_p2 (K : Value → World → Prop) (t4 t6 : Value) (w : World) : Prop := s22_p2_d K t4 t6 (drw w) (drw w)
def s22_p2_den (K : Value → World → Prop) : (Nat → Value) → World → Prop := denL Tryd.prog [(cd (Tryd.f22.body.getD .skip) [1, 1, 1, 0])] (s22_p1_den K) (fun i => (fun _ _ => False)) (s22_R K)
theorem s22_p2_ok (K : Value → World → Prop) (s : Nat → Value) (w : World) (h : s22_p2 K (s 4) (s 6) w) : Tr (s22_p2_den K s w) :=
  tr_draw (P := Tryd.prog) (ops := (ro (cd (Tryd.f22.body.getD .skip) [1, 1, 1, 0]))) (ms := [0, 1, 3, 7, 0, 16, 48, 112, 0, 256, 768, 1792, 4095, 8191, 16383]) (cs := [0, 1, 2, 3, 4, 5, 6, 7, 8, 9, 10, 11, 12, 14]) (N := (fun s w => s22_p1 K (s 4) (s 5) w)) (N' := (s22_p1_den K)) (s := s) (w := w) (p := s22_p2 K (s 4) (s 6) w) (q := s22_p2_den K s w) (by kernel_rfl) (by kernel_rfl) (fun s w h => s22_p1_ok K s w @h) (by kernel_rfl) (by kernel_rfl) @h
def s22_p3 (K : Value → World → Prop) (t0 t1 : Value) (w : World) : Prop :=
  nw 68 #[(.int .u32 0), (.int .u32 0), (.int .u32 0)] (fun t4 w =>
  cl Tryd.prog 46 #[t0, t1] (fun t11 w =>
  exq t11 0 (fun t12 w =>
  exq t11 1 (fun t13 w =>
  boI .neq t13 (.int .i64 0) (fun t15 w =>
  ifb t15
  (bdq [(.int .u32 0), (.int .u32 0), (.int .u32 0)] [] (fun t16 w =>
  stn 3 t4 t16 (fun w =>
  ldn 3 t4 (fun r0 _ =>
  K (.tuple #[r0, t13]) w) w) w) w)
  (s22_p2 K t4 t12 w)) w) w) w) w) w
def s22_p3_den (K : Value → World → Prop) : (Nat → Value) → World → Prop := denL Tryd.prog [(cd (Tryd.f22.body.getD .skip) [0]), (cd (Tryd.f22.body.getD .skip) [1, 0]), (cd (Tryd.f22.body.getD .skip) [1, 1, 0, 0]), (cd (Tryd.f22.body.getD .skip) [1, 1, 0, 1])] (s22_p2_den K) (fun i => (fun _ _ => False)) (s22_R K)
theorem s22_p3_ok (K : Value → World → Prop) (s : Nat → Value) (w : World) (h : s22_p3 K (s 0) (s 1) w) : Tr (s22_p3_den K s w) :=
  tr_simple (P := Tryd.prog) (codes := [(cd (Tryd.f22.body.getD .skip) [0]), (cd (Tryd.f22.body.getD .skip) [1, 0]), (cd (Tryd.f22.body.getD .skip) [1, 1, 0, 0]), (cd (Tryd.f22.body.getD .skip) [1, 1, 0, 1])]) (N := (fun s w => s22_p2 K (s 4) (s 6) w)) (N' := (s22_p2_den K)) (X := (fun i => (fun _ _ => False))) (X' := (fun i => (fun _ _ => False))) (R := s22_R K) (s := s) (w := w) (p := s22_p3 K (s 0) (s 1) w) (q := s22_p3_den K s w) (fun s w h => s22_p2_ok K s w @h) (fun i => tr_id) (by kernel_rfl) (by kernel_rfl) @h
/-- the call, from the text -/
theorem c22 (t0 t1 : Value) {K : Value → World → Prop} {w : World} (h : s22_p3 K t0 t1 w) : cl Tryd.prog 22 #[t0, t1] K w :=
  calls_of_tr (c := (Tryd.f22.body.getD .skip)) (fn := Tryd.f22) (q := s22_p3_den K (st0 #[t0, t1]) w) Tryd.func22 (by kernel_rfl) (by kernel_rfl) (Nat.le_of_ble_eq_true (by kernel_rfl)) (by kernel_rfl) (by kernel_rfl) (s22_p3_ok K (st0 #[t0, t1]) w @h)

/-! ### function 23 : (*e2e.memm.Arena).Load -/
def s23_R (K : Value → World → Prop) (s : Nat → Value) (w : World) : Prop := retv Tryd.prog s Tryd.f23.results.toList (fun vs => K (pack vs) w) w
def s23_p1 (K : Value → World → Prop) (t0 t1 : Value) (w : World) : Prop :=
  nck t0 (fun t7 w =>
  fd 1 t7 (fun t8 w =>
  ld1 t8 (fun t9 w =>
  boI .add t9 (.int .u64 1) (fun t10 w =>
  nck t0 (fun t11 w =>
  fd 1 t11 (fun t12 w =>
  st1 t12 t10 (fun w =>
  cvi .u64 t1 (fun t14 w =>
  cl Tryd.prog 47 #[t0] (fun t16 w =>
  boI .geq t14 t16 (fun t17 w =>
  ifb t17
  (K (.tuple #[(.int .u64 0), (.int .i64 1)]) w)
  (nck t0 (fun t19 w =>
  fd 0 t19 (fun t20 w =>
  ld1 t20 (fun t21 w =>
  ixs 1 t21 t1 (fun t23 w =>
  ld1 t23 (fun t24 w =>
  K (.tuple #[t24, (.int .i64 0)]) w) w) w) w) w) w)) w) w) w) w) w) w) w) w) w) w
def s23_p1_den (K : Value → World → Prop) : (Nat → Value) → World → Prop := denL Tryd.prog [(cd (Tryd.f23.body.getD .skip) [0]), (cd (Tryd.f23.body.getD .skip) [1, 0]), (cd (Tryd.f23.body.getD .skip) [1, 1, 0, 0]), (cd (Tryd.f23.body.getD .skip) [1, 1, 0, 1]), (cd (Tryd.f23.body.getD .skip) [1, 1, 1, 0]), (cd (Tryd.f23.body.getD .skip) [1, 1, 1, 1])] (fun _ _ => False) (fun i => (fun _ _ => False)) (s23_R K)
theorem s23_p1_ok (K : Value → World → Prop) (s : Nat → Value) (w : World) (h : s23_p1 K (s 0) (s 1) w) : Tr (s23_p1_den K s w) :=
  tr_simple (P := Tryd.prog) (codes := [(cd (Tryd.f23.body.getD .skip) [0]), (cd (Tryd.f23.body.getD .skip) [1, 0]), (cd (Tryd.f23.body.getD .skip) [1, 1, 0, 0]), (cd (Tryd.f23.body.getD .skip) [1, 1, 0, 1]), (cd (Tryd.f23.body.getD .skip) [1, 1, 1, 0]), (cd (Tryd.f23.body.getD .skip) [1, 1, 1, 1])]) (N := (fun _ _ => False)) (N' := (fun _ _ => False)) (X := (fun i => (fun _ _ => False))) (X' := (fun i => (fun _ _ => False))) (R := s23_R K) (s := s) (w := w) (p := s23_p1 K (s 0) (s 1) w) (q := s23_p1_den K s w) tr_id (fun i => tr_id) (by kernel_rfl) (by kernel_rfl) @h
/-- the call, from the text -/
theorem c23 (t0 t1 : Value) {K : Value → World → Prop} {w : World} (h : s23_p1 K t0 t1 w) : cl Tryd.prog 23 #[t0, t1] K w :=
  calls_of_tr (c := (Tryd.f23.body.getD .skip)) (fn := Tryd.f23) (q := s23_p1_den K (st0 #[t0, t1]) w) Tryd.func23 (by kernel_rfl) (by kernel_rfl) (Nat.le_of_ble_eq_true (by kernel_rfl)) (by kernel_rfl) (by kernel_rfl) (s23_p1_ok K (st0 #[t0, t1]) w @h)

/-! ### function 24 : (*e2e.pool.Table).AuditAll -/
def s24_R (K : Value → World → Prop) (s : Nat → Value) (w : World) : Prop := retv Tryd.prog s Tryd.f24.results.toList (fun vs => K (pack vs) w) w
def s24_p1 (K : Value → World → Prop) (w : World) : Prop :=
  K (.int .i64 0) w
def s24_p1_den (K : Value → World → Prop) : (Nat → Value) → World → Prop := denL Tryd.prog [(cd (Tryd.f24.body.getD .skip) [1, 1, 0]), (cd (Tryd.f24.body.getD .skip) [1, 1, 1])] (fun _ _ => False) (fun i => (fun _ _ => False)) (s24_R K)
theorem s24_p1_ok (K : Value → World → Prop) (s : Nat → Value) (w : World) (h : s24_p1 K w) : Tr (s24_p1_den K s w) :=
  tr_simple (P := Tryd.prog) (codes := [(cd (Tryd.f24.body.getD .skip) [1, 1, 0]), (cd (Tryd.f24.body.getD .skip) [1, 1, 1])]) (N := (fun _ _ => False)) (N' := (fun _ _ => False)) (X := (fun i => (fun _ _ => False))) (X' := (fun i => (fun _ _ => False))) (R := s24_R K) (s := s) (w := w) (p := s24_p1 K w) (q := s24_p1_den K s w) tr_id (fun i => tr_id) (by kernel_rfl) (by kernel_rfl) @h
def s24_p2 (K : Value → World → Prop) (B1 : List Value → World → Prop) (t0 t9 t10 : Value) (w : World) : Prop :=
  boI .lss t10 t9 (fun t11 w =>
  ifb t11
  (cl Tryd.prog 48 #[t0, t10] (fun t15 w =>
  boI .neq t15 (.int .i64 0) (fun t17 w =>
  ifb t17
  (K t15 w)
  (boI .add t10 (.int .i64 1) (fun t19 w =>
  B1 [t0, t9, t19] w) w)) w) w)
  (s24_p1 K w)) w
def s24_p2_den (K : Value → World → Prop) (M1 : (Nat → Value) → World → Prop) : (Nat → Value) → World → Prop := denL Tryd.prog [(cd (Tryd.f24.body.getD .skip) [1, 0, 1, 0, 0, 0]), (cd (Tryd.f24.body.getD .skip) [1, 0, 1, 0, 0, 1, 0]), (cd (Tryd.f24.body.getD .skip) [1, 0, 1, 0, 0, 1, 1, 0]), (cd (Tryd.f24.body.getD .skip) [1, 0, 1, 0, 0, 1, 1, 1])] M1 (fun i => (bif Nat.beq i 0 then (s24_p1_den K) else (fun _ _ => False))) (s24_R K)
theorem s24_p2_ok (K : Value → World → Prop) (B1 : List Value → World → Prop) (s : Nat → Value) (w : World) (h : s24_p2 K B1 (s 0) (s 9) (s 10) w) : Tr (s24_p2_den K (fun s w => B1 [s 0, s 9, s 10] w) s w) :=
  tr_simple (P := Tryd.prog) (codes := [(cd (Tryd.f24.body.getD .skip) [1, 0, 1, 0, 0, 0]), (cd (Tryd.f24.body.getD .skip) [1, 0, 1, 0, 0, 1, 0]), (cd (Tryd.f24.body.getD .skip) [1, 0, 1, 0, 0, 1, 1, 0]), (cd (Tryd.f24.body.getD .skip) [1, 0, 1, 0, 0, 1, 1, 1])]) (N := (fun s w => B1 [s 0, s 9, s 10] w)) (N' := (fun s w => B1 [s 0, s 9, s 10] w)) (X := (fun i => (bif Nat.beq i 0 then (fun s w => s24_p1 K w) else (fun _ _ => False)))) (X' := (fun i => (bif Nat.beq i 0 then (s24_p1_den K) else (fun _ _ => False)))) (R := s24_R K) (s := s) (w := w) (p := s24_p2 K B1 (s 0) (s 9) (s 10) w) (q := s24_p2_den K (fun s w => B1 [s 0, s 9, s 10] w) s w) tr_id (fun i => (tr_bif (fun s w h => s24_p1_ok K s w @h) tr_id)) (by kernel_rfl) (by kernel_rfl) @h
def s24_p3_F (K : Value → World → Prop) (B1 : List Value → World → Prop) (l : List Value) (w : World) : Prop :=
  match l with
  | [t0, t9, t10] => s24_p2 K B1 t0 t9 t10 w
  | _ => False
theorem s24_p3_Fe {K : Value → World → Prop} {B1 : List Value → World → Prop} {t0 t9 t10 : Value} {w : World} : s24_p3_F K B1 [t0, t9, t10] w = s24_p2 K B1 t0 t9 t10 w := by kernel_rfl
def s24_p3 (K : Value → World → Prop) (t0 t9 t10 : Value) (w : World) : Prop :=
  LoopL (s24_p3_F K) [t0, t9, t10] w
def s24_p3_den (K : Value → World → Prop) : (Nat → Value) → World → Prop := fun s w => LoopP (fun M1 s w => s24_p2_den K M1 s w) s w
theorem s24_p3_ok (K : Value → World → Prop) (s : Nat → Value) (w : World) (h : s24_p3 K (s 0) (s 9) (s 10) w) : Tr (s24_p3_den K s w) :=
  tr_loop (G := fun N' s w => s24_p2_den K N' s w) (F := s24_p3_F K) (sel := fun s => [s 0, s 9, s 10]) (s := s) (w := w) (p := s24_p3 K (s 0) (s 9) (s 10) w) (q := s24_p3_den K s w) (fun B s w h => s24_p2_ok K B s w @h) (by kernel_rfl) (by kernel_rfl) @h
def s24_p4 (K : Value → World → Prop) (t0 : Value) (w : World) : Prop :=
  nck t0 (fun t6 w =>
  fd 5 t6 (fun t7 w =>
  ld1 t7 (fun t8 w =>
  lnS t8 (fun t9 w =>
  s24_p3 K t0 t9 (.int .i64 0) w) w) w) w) w
def s24_p4_den (K : Value → World → Prop) : (Nat → Value) → World → Prop := denL Tryd.prog [(cd (Tryd.f24.body.getD .skip) [0]), (cd (Tryd.f24.body.getD .skip) [1, 0, 0])] (s24_p3_den K) (fun i => (fun _ _ => False)) (s24_R K)
theorem s24_p4_ok (K : Value → World → Prop) (s : Nat → Value) (w : World) (h : s24_p4 K (s 0) w) : Tr (s24_p4_den K s w) :=
  tr_simple (P := Tryd.prog) (codes := [(cd (Tryd.f24.body.getD .skip) [0]), (cd (Tryd.f24.body.getD .skip) [1, 0, 0])]) (N := (fun s w => s24_p3 K (s 0) (s 9) (s 10) w)) (N' := (s24_p3_den K)) (X := (fun i => (fun _ _ => False))) (X' := (fun i => (fun _ _ => False))) (R := s24_R K) (s := s) (w := w) (p := s24_p4 K (s 0) w) (q := s24_p4_den K s w) (fun s w h => s24_p3_ok K s w @h) (fun i => tr_id) (by kernel_rfl) (by kernel_rfl) @h
/-- the call, from the text -/
theorem c24 (t0 : Value) {K : Value → World → Prop} {w : World} (h : s24_p4 K t0 w) : cl Tryd.prog 24 #[t0] K w :=
  calls_of_tr (c := (Tryd.f24.body.getD .skip)) (fn := Tryd.f24) (q := s24_p4_den K (st0 #[t0]) w) Tryd.func24 (by kernel_rfl) (by kernel_rfl) (Nat.le_of_ble_eq_true (by kernel_rfl)) (by kernel_rfl) (by kernel_rfl) (s24_p4_ok K (st0 #[t0]) w @h)

/-! ### function 25 : (*e2e.memm.Arena).TakeStored -/
def s25_R (K : Value → World → Prop) (s : Nat → Value) (w : World) : Prop := retv Tryd.prog s Tryd.f25.results.toList (fun vs => K (pack vs) w) w
def s25_p1 (K : Value → World → Prop) (t0 : Value) (w : World) : Prop :=
  nck t0 (fun t5 w =>
  fd 2 t5 (fun t6 w =>
  ld1 t6 (fun t7 w =>
  nck t0 (fun t9 w =>
  fd 2 t9 (fun t10 w =>
  st1 t10 (.slice none 0 0) (fun w =>
  K t7 w) w) w) w) w) w) w
def s25_p1_den (K : Value → World → Prop) : (Nat → Value) → World → Prop := denL Tryd.prog [(cd (Tryd.f25.body.getD .skip) [0]), (cd (Tryd.f25.body.getD .skip) [1, 0]), (cd (Tryd.f25.body.getD .skip) [1, 1, 0]), (cd (Tryd.f25.body.getD .skip) [1, 1, 1, 0]), (cd (Tryd.f25.body.getD .skip) [1, 1, 1, 1])] (fun _ _ => False) (fun i => (fun _ _ => False)) (s25_R K)
theorem s25_p1_ok (K : Value → World → Prop) (s : Nat → Value) (w : World) (h : s25_p1 K (s 0) w) : Tr (s25_p1_den K s w) :=
  tr_simple (P := Tryd.prog) (codes := [(cd (Tryd.f25.body.getD .skip) [0]), (cd (Tryd.f25.body.getD .skip) [1, 0]), (cd (Tryd.f25.body.getD .skip) [1, 1, 0]), (cd (Tryd.f25.body.getD .skip) [1, 1, 1, 0]), (cd (Tryd.f25.body.getD .skip) [1, 1, 1, 1])]) (N := (fun _ _ => False)) (N' := (fun _ _ => False)) (X := (fun i => (fun _ _ => False))) (X' := (fun i => (fun _ _ => False))) (R := s25_R K) (s := s) (w := w) (p := s25_p1 K (s 0) w) (q := s25_p1_den K s w) tr_id (fun i => tr_id) (by kernel_rfl) (by kernel_rfl) @h
/-- the call, from the text -/
theorem c25 (t0 : Value) {K : Value → World → Prop} {w : World} (h : s25_p1 K t0 w) : cl Tryd.prog 25 #[t0] K w :=
  calls_of_tr (c := (Tryd.f25.body.getD .skip)) (fn := Tryd.f25) (q := s25_p1_den K (st0 #[t0]) w) Tryd.func25 (by kernel_rfl) (by kernel_rfl) (Nat.le_of_ble_eq_true (by kernel_rfl)) (by kernel_rfl) (by kernel_rfl) (s25_p1_ok K (st0 #[t0]) w @h)

/-! ### function 26 : (*e2e.pool.Table).Totals -/
def s26_R (K : Value → World → Prop) (s : Nat → Value) (w : World) : Prop := retv Tryd.prog s Tryd.f26.results.toList (fun vs => K (pack vs) w) w
def s26_p1 (K : Value → World → Prop) (t2 t3 : Value) (w : World) : Prop :=
  K (.tuple #[t2, t3, (.int .i64 0)]) w
def s26_p1_den (K : Value → World → Prop) : (Nat → Value) → World → Prop := denL Tryd.prog [(cd (Tryd.f26.body.getD .skip) [1, 1, 0]), (cd (Tryd.f26.body.getD .skip) [1, 1, 1])] (fun _ _ => False) (fun i => (fun _ _ => False)) (s26_R K)
theorem s26_p1_ok (K : Value → World → Prop) (s : Nat → Value) (w : World) (h : s26_p1 K (s 2) (s 3) w) : Tr (s26_p1_den K s w) :=
  tr_simple (P := Tryd.prog) (codes := [(cd (Tryd.f26.body.getD .skip) [1, 1, 0]), (cd (Tryd.f26.body.getD .skip) [1, 1, 1])]) (N := (fun _ _ => False)) (N' := (fun _ _ => False)) (X := (fun i => (fun _ _ => False))) (X' := (fun i => (fun _ _ => False))) (R := s26_R K) (s := s) (w := w) (p := s26_p1 K (s 2) (s 3) w) (q := s26_p1_den K s w) tr_id (fun i => tr_id) (by kernel_rfl) (by kernel_rfl) @h
def s26_p2 (K : Value → World → Prop) (B1 : List Value → World → Prop) (t0 t2 t3 t13 t14 : Value) (w : World) : Prop :=
  boI .lss t14 t13 (fun t15 w =>
  ifb t15
  (cl Tryd.prog 37 #[t0, t14] (fun t20 w =>
  exq t20 0 (fun t21 w =>
  exq t20 1 (fun t22 w =>
  nw 38 #[(.int .u32 0), (.int .u32 0), (.int .u32 0), (.int .u64 0)] (fun t6 w =>
  stn 4 t6 t21 (fun w =>
  boI .neq t22 (.int .i64 0) (fun t24 w =>
  ifb t24
  (K (.tuple #[(.int .u64 0), (.int .u64 0), t22]) w)
  (nck t0 (fun t27 w =>
  fd 5 t27 (fun t28 w =>
  ld1 t28 (fun t29 w =>
  ixs 6 t29 t14 (fun t31 w =>
  fd 4 t31 (fun t32 w =>
  ld1 t32 (fun t33 w =>
  cvi .u64 t33 (fun t34 w =>
  fd 0 t6 (fun t36 w =>
  ld1 t36 (fun t37 w =>
  cvi .u64 t37 (fun t38 w =>
  boI .mul t38 t34 (fun t40 w =>
  boI .add t2 t40 (fun t41 w =>
  nck t0 (fun t44 w =>
  fd 5 t44 (fun t45 w =>
  ld1 t45 (fun t46 w =>
  ixs 6 t46 t14 (fun t48 w =>
  fd 5 t48 (fun t49 w =>
  ld1 t49 (fun t50 w =>
  cvi .u64 t50 (fun t51 w =>
  boI .mul t51 t34 (fun t53 w =>
  boI .add t3 t53 (fun t54 w =>
  boI .add t14 (.int .i64 1) (fun t55 w =>
  B1 [t0, t41, t54, t13, t55] w) w) w) w) w) w) w) w) w) w) w) w) w) w) w) w) w) w) w) w) w) w) w)) w) w) w) w) w) w)
  (s26_p1 K t2 t3 w)) w
def s26_p2_den (K : Value → World → Prop) (M1 : (Nat → Value) → World → Prop) : (Nat → Value) → World → Prop := denL Tryd.prog [(cd (Tryd.f26.body.getD .skip) [1, 0, 1, 0, 0, 0]), (cd (Tryd.f26.body.getD .skip) [1, 0, 1, 0, 0, 1, 0]), (cd (Tryd.f26.body.getD .skip) [1, 0, 1, 0, 0, 1, 1, 0]), (cd (Tryd.f26.body.getD .skip) [1, 0, 1, 0, 0, 1, 1, 1])] M1 (fun i => (bif Nat.beq i 0 then (s26_p1_den K) else (fun _ _ => False))) (s26_R K)
theorem s26_p2_ok (K : Value → World → Prop) (B1 : List Value → World → Prop) (s : Nat → Value) (w : World) (h : s26_p2 K B1 (s 0) (s 2) (s 3) (s 13) (s 14) w) : Tr (s26_p2_den K (fun s w => B1 [s 0, s 2, s 3, s 13, s 14] w) s w) :=
  tr_simple (P := Tryd.prog) (codes := [(cd (Tryd.f26.body.getD .skip) [1, 0, 1, 0, 0, 0]), (cd (Tryd.f26.body.getD .skip) [1, 0, 1, 0, 0, 1, 0]), (cd (Tryd.f26.body.getD .skip) [1, 0, 1, 0, 0, 1, 1, 0]), (cd (Tryd.f26.body.getD .skip) [1, 0, 1, 0, 0, 1, 1, 1])]) (N := (fun s w => B1 [s 0, s 2, s 3, s 13, s 14] w)) (N' := (fun s w => B1 [s 0, s 2, s 3, s 13, s 14] w)) (X := (fun i => (bif Nat.beq i 0 then (fun s w => s26_p1 K (s 2) (s 3) w) else (fun _ _ => False)))) (X' := (fun i => (bif Nat.beq i 0 then (s26_p1_den K) else (fun _ _ => False)))) (R := s26_R K) (s := s) (w := w) (p := s26_p2 K B1 (s 0) (s 2) (s 3) (s 13) (s 14) w) (q := s26_p2_den K (fun s w => B1 [s 0, s 2, s 3, s 13, s 14] w) s w) tr_id (fun i => (tr_bif (fun s w h => s26_p1_ok K s w @h) tr_id)) (by kernel_rfl) (by kernel_rfl) @h
def s26_p3_F (K : Value → World → Prop) (B1 : List Value → World → Prop) (l : List Value) (w : World) : Prop :=
  match l with
  | [t0, t2, t3, t13, t14] => s26_p2 K B1 t0 t2 t3 t13 t14 w
  | _ => False
theorem s26_p3_Fe {K : Value → World → Prop} {B1 : List Value → World → Prop} {t0 t2 t3 t13 t14 : Value} {w : World} : s26_p3_F K B1 [t0, t2, t3, t13, t14] w = s26_p2 K B1 t0 t2 t3 t13 t14 w := by kernel_rfl
def s26_p3 (K : Value → World → Prop) (t0 t2 t3 t13 t14 : Value) (w : World) : Prop :=
  LoopL (s26_p3_F K) [t0, t2, t3, t13, t14] w
def s26_p3_den (K : Value → World → Prop) : (Nat → Value) → World → Prop := fun s w => LoopP (fun M1 s w => s26_p2_den K M1 s w) s w
theorem s26_p3_ok (K : Value → World → Prop) (s : Nat → Value) (w : World) (h : s26_p3 K (s 0) (s 2) (s 3) (s 13) (s 14) w) : Tr (s26_p3_den K s w) :=
  tr_loop (G := fun N' s w => s26_p2_den K N' s w) (F := s26_p3_F K) (sel := fun s => [s 0, s 2, s 3, s 13, s 14]) (s := s) (w := w) (p := s26_p3 K (s 0) (s 2) (s 3) (s 13) (s 14) w) (q := s26_p3_den K s w) (fun B s w h => s26_p2_ok K B s w @h) (by kernel_rfl) (by kernel_rfl) @h
def s26_p4 (K : Value → World → Prop) (t0 : Value) (w : World) : Prop :=
  nck t0 (fun t10 w =>
  fd 5 t10 (fun t11 w =>
  ld1 t11 (fun t12 w =>
  lnS t12 (fun t13 w =>
  s26_p3 K t0 (.int .u64 0) (.int .u64 0) t13 (.int .i64 0) w) w) w) w) w
def s26_p4_den (K : Value → World → Prop) : (Nat → Value) → World → Prop := denL Tryd.prog [(cd (Tryd.f26.body.getD .skip) [0]), (cd (Tryd.f26.body.getD .skip) [1, 0, 0])] (s26_p3_den K) (fun i => (fun _ _ => False)) (s26_R K)
theorem s26_p4_ok (K : Value → World → Prop) (s : Nat → Value) (w : World) (h : s26_p4 K (s 0) w) : Tr (s26_p4_den K s w) :=
  tr_simple (P := Tryd.prog) (codes := [(cd (Tryd.f26.body.getD .skip) [0]), (cd (Tryd.f26.body.getD .skip) [1, 0, 0])]) (N := (fun s w => s26_p3 K (s 0) (s 2) (s 3) (s 13) (s 14) w)) (N' := (s26_p3_den K)) (X := (fun i => (fun _ _ => False))) (X' := (fun i => (fun _ _ => False))) (R := s26_R K) (s := s) (w := w) (p := s26_p4 K (s 0) w) (q := s26_p4_den K s w) (fun s w h => s26_p3_ok K s w @h) (fun i => tr_id) (by kernel_rfl) (by kernel_rfl) @h
/-- the call, from the text -/
theorem c26 (t0 : Value) {K : Value → World → Prop} {w : World} (h : s26_p4 K t0 w) : cl Tryd.prog 26 #[t0] K w :=
  calls_of_tr (c := (Tryd.f26.body.getD .skip)) (fn := Tryd.f26) (q := s26_p4_den K (st0 #[t0]) w) Tryd.func26 (by kernel_rfl) (by kernel_rfl) (Nat.le_of_ble_eq_true (by kernel_rfl)) (by kernel_rfl) (by kernel_rfl) (s26_p4_ok K (st0 #[t0]) w @h)

/-! ### function 27 : e2e.memm.New -/
def s27_R (K : Value → World → Prop) (s : Nat → Value) (w : World) : Prop := retv Tryd.prog s Tryd.f27.results.toList (fun vs => K (pack vs) w) w
def s27_p1 (K : Value → World → Prop) (t0 : Value) (w : World) : Prop :=
  mks 71 [(.int .u64 0)] 8 t0 t0 (fun t4 w =>
  bdq [(.slice none 0 0), (.int .u64 0), (.slice none 0 0)] [(some (0, 1), t4)] (fun t5 w =>
  nw 114 (t5).cells (fun t6 w =>
  K t6 w) w) w) w
def s27_p1_den (K : Value → World → Prop) : (Nat → Value) → World → Prop := denL Tryd.prog [(cd (Tryd.f27.body.getD .skip) [0]), (cd (Tryd.f27.body.getD .skip) [1, 0]), (cd (Tryd.f27.body.getD .skip) [1, 1])] (fun _ _ => False) (fun i => (fun _ _ => False)) (s27_R K)
theorem s27_p1_ok (K : Value → World → Prop) (s : Nat → Value) (w : World) (h : s27_p1 K (s 0) w) : Tr (s27_p1_den K s w) :=
  tr_simple (P := Tryd.prog) (codes := [(cd (Tryd.f27.body.getD .skip) [0]), (cd (Tryd.f27.body.getD .skip) [1, 0]), (cd (Tryd.f27.body.getD .skip) [1, 1])]) (N := (fun _ _ => False)) (N' := (fun _ _ => False)) (X := (fun i => (fun _ _ => False))) (X' := (fun i => (fun _ _ => False))) (R := s27_R K) (s := s) (w := w) (p := s27_p1 K (s 0) w) (q := s27_p1_den K s w) tr_id (fun i => tr_id) (by kernel_rfl) (by kernel_rfl) @h
/-- the call, from the text -/
theorem c27 (t0 : Value) {K : Value → World → Prop} {w : World} (h : s27_p1 K t0 w) : cl Tryd.prog 27 #[t0] K w :=
  calls_of_tr (c := (Tryd.f27.body.getD .skip)) (fn := Tryd.f27) (q := s27_p1_den K (st0 #[t0]) w) Tryd.func27 (by kernel_rfl) (by kernel_rfl) (Nat.le_of_ble_eq_true (by kernel_rfl)) (by kernel_rfl) (by kernel_rfl) (s27_p1_ok K (st0 #[t0]) w @h)

/-! ### function 28 : (*e2e.memm.Arena).Store -/
def s28_R (K : Value → World → Prop) (s : Nat → Value) (w : World) : Prop := retv Tryd.prog s Tryd.f28.results.toList (fun vs => K (pack vs) w) w
def s28_p1 (K : Value → World → Prop) (t0 t1 t2 : Value) (w : World) : Prop :=
  nck t0 (fun t8 w =>
  fd 1 t8 (fun t9 w =>
  ld1 t9 (fun t10 w =>
  boI .add t10 (.int .u64 1) (fun t11 w =>
  nck t0 (fun t12 w =>
  fd 1 t12 (fun t13 w =>
  st1 t13 t11 (fun w =>
  cvi .u64 t1 (fun t15 w =>
  cl Tryd.prog 47 #[t0] (fun t17 w =>
  boI .geq t15 t17 (fun t18 w =>
  ifb t18
  (K (.int .i64 1) w)
  (nck t0 (fun t20 w =>
  fd 0 t20 (fun t21 w =>
  ld1 t21 (fun t22 w =>
  ixs 1 t22 t1 (fun t25 w =>
  st1 t25 t2 (fun w =>
  nck t0 (fun t28 w =>
  fd 2 t28 (fun t29 w =>
  ld1 t29 (fun t30 w =>
  bsq 31 [(.int .u32 0)] 1 [(some (0, 1), t1)] (fun t32 w =>
  apq 31 [(.int .u32 0)] 4 t30 t32 (fun t33 w =>
  nck t0 (fun t34 w =>
  fd 2 t34 (fun t35 w =>
  st1 t35 t33 (fun w =>
  K (.int .i64 0) w) w) w) w) w) w) w) w) w) w) w) w) w) w)) w) w) w) w) w) w) w) w) w) w
def s28_p1_den (K : Value → World → Prop) : (Nat → Value) → World → Prop := denL Tryd.prog [(cd (Tryd.f28.body.getD .skip) [0]), (cd (Tryd.f28.body.getD .skip) [1, 0]), (cd (Tryd.f28.body.getD .skip) [1, 1, 0, 0]), (cd (Tryd.f28.body.getD .skip) [1, 1, 0, 1]), (cd (Tryd.f28.body.getD .skip) [1, 1, 1, 0]), (cd (Tryd.f28.body.getD .skip) [1, 1, 1, 1, 0]), (cd (Tryd.f28.body.getD .skip) [1, 1, 1, 1, 1, 0]), (cd (Tryd.f28.body.getD .skip) [1, 1, 1, 1, 1, 1])] (fun _ _ => False) (fun i => (fun _ _ => False)) (s28_R K)
theorem s28_p1_ok (K : Value → World → Prop) (s : Nat → Value) (w : World) (h : s28_p1 K (s 0) (s 1) (s 2) w) : Tr (s28_p1_den K s w) :=
  tr_simple (P := Tryd.prog) (codes := [(cd (Tryd.f28.body.getD .skip) [0]), (cd (Tryd.f28.body.getD .skip) [1, 0]), (cd (Tryd.f28.body.getD .skip) [1, 1, 0, 0]), (cd (Tryd.f28.body.getD .skip) [1, 1, 0, 1]), (cd (Tryd.f28.body.getD .skip) [1, 1, 1, 0]), (cd (Tryd.f28.body.getD .skip) [1, 1, 1, 1, 0]), (cd (Tryd.f28.body.getD .skip) [1, 1, 1, 1, 1, 0]), (cd (Tryd.f28.body.getD .skip) [1, 1, 1, 1, 1, 1])]) (N := (fun _ _ => False)) (N' := (fun _ _ => False)) (X := (fun i => (fun _ _ => False))) (X' := (fun i => (fun _ _ => False))) (R := s28_R K) (s := s) (w := w) (p := s28_p1 K (s 0) (s 1) (s 2) w) (q := s28_p1_den K s w) tr_id (fun i => tr_id) (by kernel_rfl) (by kernel_rfl) @h
/-- the call, from the text -/
theorem c28 (t0 t1 t2 : Value) {K : Value → World → Prop} {w : World} (h : s28_p1 K t0 t1 t2 w) : cl Tryd.prog 28 #[t0, t1, t2] K w :=
  calls_of_tr (c := (Tryd.f28.body.getD .skip)) (fn := Tryd.f28) (q := s28_p1_den K (st0 #[t0, t1, t2]) w) Tryd.func28 (by kernel_rfl) (by kernel_rfl) (Nat.le_of_ble_eq_true (by kernel_rfl)) (by kernel_rfl) (by kernel_rfl) (s28_p1_ok K (st0 #[t0, t1, t2]) w @h)

/-! ### function 29 : e2e.pool.New -/
def s29_R (K : Value → World → Prop) (s : Nat → Value) (w : World) : Prop := retv Tryd.prog s Tryd.f29.results.toList (fun vs => K (pack vs) w) w
def s29_p1 (K : Value → World → Prop) (t4 t5 : Value) (w : World) : Prop :=
  K (.tuple #[t4, t5]) w
def s29_p1_den (K : Value → World → Prop) : (Nat → Value) → World → Prop := denL Tryd.prog [(cd (Tryd.f29.body.getD .skip) [1, 1, 1, 1, 1])] (fun _ _ => False) (fun i => (fun _ _ => False)) (s29_R K)
theorem s29_p1_ok (K : Value → World → Prop) (s : Nat → Value) (w : World) (h : s29_p1 K (s 4) (s 5) w) : Tr (s29_p1_den K s w) :=
  tr_simple (P := Tryd.prog) (codes := [(cd (Tryd.f29.body.getD .skip) [1, 1, 1, 1, 1])]) (N := (fun _ _ => False)) (N' := (fun _ _ => False)) (X := (fun i => (fun _ _ => False))) (X' := (fun i => (fun _ _ => False))) (R := s29_R K) (s := s) (w := w) (p := s29_p1 K (s 4) (s 5) w) (q := s29_p1_den K s w) tr_id (fun i => tr_id) (by kernel_rfl) (by kernel_rfl) @h
def s29_p2_d (K : Value → World → Prop) (t0 t3 t6 : Value) (w0 w : World) : Prop :=
  ldn 2 t3 (fun t30 _ =>
  fd 0 t3 (fun t31 _ =>
  ld1 t31 (fun t32 _ =>
  cvi .u32 t6 (fun t34 _ =>
  mks 112 [(.int .u32 0), (.int .u32 0), (.int .u32 0), (.int .u32 0), (.int .u32 0), (.int .u32 0)] 24 (.int .i64 0) (.int .i64 8) (fun t35 w =>
  Below w0.heap.size w0 w ∧
  bdq [(.pointer none), (.int .u32 0), (.int .u32 0), (.int .u32 0), (.int .u32 0), (.slice none 0 0)] [(some (0, 1), t0), (some (1, 2), t30), (some (3, 1), t32), (some (4, 1), t34), (some (5, 1), t35)] (fun t36 w =>
  nw 106 (t36).cells (fun t37 w =>
  s29_p1 K t37 (.int .i64 0) w) w) w) w) w0) w0) w0) w0
def s29_p2 (K : Value → World → Prop) (t0 t3 t6 : Value) (w : World) : Prop := s29_p2_d K t0 t3 t6 (drw w) (drw w)
def s29_p2_den (K : Value → World → Prop) : (Nat → Value) → World → Prop := denL Tryd.prog [(cd (Tryd.f29.body.getD .skip) [1, 1, 1, 1, 0])] (s29_p1_den K) (fun i => (fun _ _ => False)) (s29_R K)
theorem s29_p2_ok (K : Value → World → Prop) (s : Nat → Value) (w : World) (h : s29_p2 K (s 0) (s 3) (s 6) w) : Tr (s29_p2_den K s w) :=
  tr_draw (P := Tryd.prog) (ops := (ro (cd (Tryd.f29.body.getD .skip) [1, 1, 1, 1, 0]))) (ms := [0, 0, 0, 4, 0, 16, 0, 127, 255, 511, 1023]) (cs := [0, 1, 2, 3, 4, 5, 10]) (N := (fun s w => s29_p1 K (s 4) (s 5) w)) (N' := (s29_p1_den K)) (s := s) (w := w) (p := s29_p2 K (s 0) (s 3) (s 6) w) (q := s29_p2_den K s w) (by kernel_rfl) (by kernel_rfl) (fun s w h => s29_p1_ok K s w @h) (by kernel_rfl) (by kernel_rfl) @h
def s29_p3 (K : Value → World → Prop) (t0 t1 : Value) (w : World) : Prop :=
  nw 83 (t1).cells (fun t3 w =>
  boP .eql t0 (.pointer none) (fun t8 w =>
  gd t8 false (fd 1 t3) (fun t10 w =>
  gd t8 false (ld1 t10) (fun t11 w =>
  gd t8 false (boI .eql t11 (.int .u32 0)) (fun t12 w =>
  pk t8 (.bool true) t12 (fun t13 w =>
  ifb t13
  (K (.tuple #[(.pointer none), (.int .i64 2)]) w)
  (fd 0 t3 (fun t14 w =>
  ld1 t14 (fun t15 w =>
  cvi .u64 t15 (fun t16 w =>
  fd 1 t3 (fun t17 w =>
  ld1 t17 (fun t18 w =>
  cvi .u64 t18 (fun t19 w =>
  boI .add t16 t19 (fun t20 w =>
  cl Tryd.prog 47 #[t0] (fun t23 w =>
  boI .gtr t20 t23 (fun t24 w =>
  gd t24 false (fun K w => K t20 w) (fun t26 w =>
  gd t24 false (boI .gtr t26 (.int .u64 4294967295)) (fun t27 w =>
  pk t24 (.bool true) t27 (fun t28 w =>
  ifb t28
  (K (.tuple #[(.pointer none), (.int .i64 2)]) w)
  (s29_p2 K t0 t3 t20 w)) w) w) w) w) w) w) w) w) w) w) w) w)) w) w) w) w) w) w
def s29_p3_den (K : Value → World → Prop) : (Nat → Value) → World → Prop := denL Tryd.prog [(cd (Tryd.f29.body.getD .skip) [0]), (cd (Tryd.f29.body.getD .skip) [1, 0, 0]), (cd (Tryd.f29.body.getD .skip) [1, 0, 1]), (cd (Tryd.f29.body.getD .skip) [1, 1, 0]), (cd (Tryd.f29.body.getD .skip) [1, 1, 1, 0, 0]), (cd (Tryd.f29.body.getD .skip) [1, 1, 1, 0, 1])] (s29_p2_den K) (fun i => (fun _ _ => False)) (s29_R K)
theorem s29_p3_ok (K : Value → World → Prop) (s : Nat → Value) (w : World) (h : s29_p3 K (s 0) (s 1) w) : Tr (s29_p3_den K s w) :=
  tr_simple (P := Tryd.prog) (codes := [(cd (Tryd.f29.body.getD .skip) [0]), (cd (Tryd.f29.body.getD .skip) [1, 0, 0]), (cd (Tryd.f29.body.getD .skip) [1, 0, 1]), (cd (Tryd.f29.body.getD .skip) [1, 1, 0]), (cd (Tryd.f29.body.getD .skip) [1, 1, 1, 0, 0]), (cd (Tryd.f29.body.getD .skip) [1, 1, 1, 0, 1])]) (N := (fun s w => s29_p2 K (s 0) (s 3) (s 6) w)) (N' := (s29_p2_den K)) (X := (fun i => (fun _ _ => False))) (X' := (fun i => (fun _ _ => False))) (R := s29_R K) (s := s) (w := w) (p := s29_p3 K (s 0) (s 1) w) (q := s29_p3_den K s w) (fun s w h => s29_p2_ok K s w @h) (fun i => tr_id) (by kernel_rfl) (by kernel_rfl) @h
/-- the call, from the text -/
theorem c29 (t0 t1 : Value) {K : Value → World → Prop} {w : World} (h : s29_p3 K t0 t1 w) : cl Tryd.prog 29 #[t0, t1] K w :=
  calls_of_tr (c := (Tryd.f29.body.getD .skip)) (fn := Tryd.f29) (q := s29_p3_den K (st0 #[t0, t1]) w) Tryd.func29 (by kernel_rfl) (by kernel_rfl) (Nat.le_of_ble_eq_true (by kernel_rfl)) (by kernel_rfl) (by kernel_rfl) (s29_p3_ok K (st0 #[t0, t1]) w @h)

/-! ### function 30 : e2e.poolm.Open -/
def s30_R (K : Value → World → Prop) (s : Nat → Value) (w : World) : Prop := retv Tryd.prog s Tryd.f30.results.toList (fun vs => K (pack vs) w) w
def s30_p1 (K : Value → World → Prop) (t0 t1 t2 : Value) (w : World) : Prop :=
  boI .lss t2 (.int .i64 1) (fun t9 w =>
  gd t9 false (fun K w => K t1 w) (fun t11 w =>
  gd t9 false (boI .lss t11 (.int .i64 0)) (fun t12 w =>
  pk t9 (.bool true) t12 (fun t13 w =>
  gd t13 false (fun K w => K t1 w) (fun t15 w =>
  gd t13 false (fun K w => K t2 w) (fun t16 w =>
  gd t13 false (boI .add t15 t16) (fun t17 w =>
  gd t13 false (fun K w => K t0 w) (fun t18 w =>
  gd t13 false (boI .gtr t17 t18) (fun t19 w =>
  pk t13 (.bool true) t19 (fun t20 w =>
  ifb t20
  (K (.tuple #[(.pointer none), (.int .i64 2)]) w)
  (bdq [(.int .i64 0), (.slice none 0 0)] [(some (0, 1), t2)] (fun t22 w =>
  nw 54 (t22).cells (fun t23 w =>
  K (.tuple #[t23, (.int .i64 0)]) w) w) w)) w) w) w) w) w) w) w) w) w) w
def s30_p1_den (K : Value → World → Prop) : (Nat → Value) → World → Prop := denL Tryd.prog [(cd (Tryd.f30.body.getD .skip) [0]), (cd (Tryd.f30.body.getD .skip) [1, 0, 0]), (cd (Tryd.f30.body.getD .skip) [1, 0, 1]), (cd (Tryd.f30.body.getD .skip) [1, 1, 0]), (cd (Tryd.f30.body.getD .skip) [1, 1, 1])] (fun _ _ => False) (fun i => (fun _ _ => False)) (s30_R K)
theorem s30_p1_ok (K : Value → World → Prop) (s : Nat → Value) (w : World) (h : s30_p1 K (s 0) (s 1) (s 2) w) : Tr (s30_p1_den K s w) :=
  tr_simple (P := Tryd.prog) (codes := [(cd (Tryd.f30.body.getD .skip) [0]), (cd (Tryd.f30.body.getD .skip) [1, 0, 0]), (cd (Tryd.f30.body.getD .skip) [1, 0, 1]), (cd (Tryd.f30.body.getD .skip) [1, 1, 0]), (cd (Tryd.f30.body.getD .skip) [1, 1, 1])]) (N := (fun _ _ => False)) (N' := (fun _ _ => False)) (X := (fun i => (fun _ _ => False))) (X' := (fun i => (fun _ _ => False))) (R := s30_R K) (s := s) (w := w) (p := s30_p1 K (s 0) (s 1) (s 2) w) (q := s30_p1_den K s w) tr_id (fun i => tr_id) (by kernel_rfl) (by kernel_rfl) @h
/-- the call, from the text -/
theorem c30 (t0 t1 t2 : Value) {K : Value → World → Prop} {w : World} (h : s30_p1 K t0 t1 t2 w) : cl Tryd.prog 30 #[t0, t1, t2] K w :=
  calls_of_tr (c := (Tryd.f30.body.getD .skip)) (fn := Tryd.f30) (q := s30_p1_den K (st0 #[t0, t1, t2]) w) Tryd.func30 (by kernel_rfl) (by kernel_rfl) (Nat.le_of_ble_eq_true (by kernel_rfl)) (by kernel_rfl) (by kernel_rfl) (s30_p1_ok K (st0 #[t0, t1, t2]) w @h)

/-! ### function 31 : (*e2e.memm.Arena).Steps -/
def s31_R (K : Value → World → Prop) (s : Nat → Value) (w : World) : Prop := retv Tryd.prog s Tryd.f31.results.toList (fun vs => K (pack vs) w) w
def s31_p1 (K : Value → World → Prop) (t0 : Value) (w : World) : Prop :=
  nck t0 (fun t4 w =>
  fd 1 t4 (fun t5 w =>
  ld1 t5 (fun t6 w =>
  K t6 w) w) w) w
def s31_p1_den (K : Value → World → Prop) : (Nat → Value) → World → Prop := denL Tryd.prog [(cd (Tryd.f31.body.getD .skip) [0]), (cd (Tryd.f31.body.getD .skip) [1, 0]), (cd (Tryd.f31.body.getD .skip) [1, 1])] (fun _ _ => False) (fun i => (fun _ _ => False)) (s31_R K)
theorem s31_p1_ok (K : Value → World → Prop) (s : Nat → Value) (w : World) (h : s31_p1 K (s 0) w) : Tr (s31_p1_den K s w) :=
  tr_simple (P := Tryd.prog) (codes := [(cd (Tryd.f31.body.getD .skip) [0]), (cd (Tryd.f31.body.getD .skip) [1, 0]), (cd (Tryd.f31.body.getD .skip) [1, 1])]) (N := (fun _ _ => False)) (N' := (fun _ _ => False)) (X := (fun i => (fun _ _ => False))) (X' := (fun i => (fun _ _ => False))) (R := s31_R K) (s := s) (w := w) (p := s31_p1 K (s 0) w) (q := s31_p1_den K s w) tr_id (fun i => tr_id) (by kernel_rfl) (by kernel_rfl) @h
/-- the call, from the text -/
theorem c31 (t0 : Value) {K : Value → World → Prop} {w : World} (h : s31_p1 K t0 w) : cl Tryd.prog 31 #[t0] K w :=
  calls_of_tr (c := (Tryd.f31.body.getD .skip)) (fn := Tryd.f31) (q := s31_p1_den K (st0 #[t0]) w) Tryd.func31 (by kernel_rfl) (by kernel_rfl) (Nat.le_of_ble_eq_true (by kernel_rfl)) (by kernel_rfl) (by kernel_rfl) (s31_p1_ok K (st0 #[t0]) w @h)

/-! ### function 32 : (*e2e.pool.Table).Create -/
def s32_R (K : Value → World → Prop) (s : Nat → Value) (w : World) : Prop := retv Tryd.prog s Tryd.f32.results.toList (fun vs => K (pack vs) w) w
def s32_p1 (K : Value → World → Prop) (t0 : Value) (w : World) : Prop :=
  nck t0 (fun t93 w =>
  fd 5 t93 (fun t94 w =>
  ld1 t94 (fun t95 w =>
  lnS t95 (fun t96 w =>
  boI .sub t96 (.int .i64 1) (fun t97 w =>
  K (.tuple #[t97, (.int .i64 0)]) w) w) w) w) w) w
def s32_p1_den (K : Value → World → Prop) : (Nat → Value) → World → Prop := denL Tryd.prog [(cd (Tryd.f32.body.getD .skip) [1, 1, 1, 1, 1, 1, 1, 1, 1, 1, 1, 1, 0]), (cd (Tryd.f32.body.getD .skip) [1, 1, 1, 1, 1, 1, 1, 1, 1, 1, 1, 1, 1])] (fun _ _ => False) (fun i => (fun _ _ => False)) (s32_R K)
theorem s32_p1_ok (K : Value → World → Prop) (s : Nat → Value) (w : World) (h : s32_p1 K (s 0) w) : Tr (s32_p1_den K s w) :=
  tr_simple (P := Tryd.prog) (codes := [(cd (Tryd.f32.body.getD .skip) [1, 1, 1, 1, 1, 1, 1, 1, 1, 1, 1, 1, 0]), (cd (Tryd.f32.body.getD .skip) [1, 1, 1, 1, 1, 1, 1, 1, 1, 1, 1, 1, 1])]) (N := (fun _ _ => False)) (N' := (fun _ _ => False)) (X := (fun i => (fun _ _ => False))) (X' := (fun i => (fun _ _ => False))) (R := s32_R K) (s := s) (w := w) (p := s32_p1 K (s 0) w) (q := s32_p1_den K s w) tr_id (fun i => tr_id) (by kernel_rfl) (by kernel_rfl) @h
def s32_p2_d (K : Value → World → Prop) (t0 t9 : Value) (w0 w : World) : Prop :=
  nck t0 (fun t84 _ =>
  fd 5 t84 (fun t85 _ =>
  ld1 t85 (fun t86 _ =>
  ldn 6 t9 (fun t87 _ =>
  nck t0 (fun t90 _ =>
  fd 5 t90 (fun t91 _ =>
  bsq 112 [(.int .u32 0), (.int .u32 0), (.int .u32 0), (.int .u32 0), (.int .u32 0), (.int .u32 0)] 1 [(some (0, 6), t87)] (fun t88 w =>
  Below w0.heap.size w0 w ∧
  apq 112 [(.int .u32 0), (.int .u32 0), (.int .u32 0), (.int .u32 0), (.int .u32 0), (.int .u32 0)] 24 t86 t88 (fun t89 w =>
  st1 t91 t89 (fun w =>
  s32_p1 K t0 w) w) w) w) w0) w0) w0) w0) w0) w0
def s32_p2 (K : Value → World → Prop) (t0 t9 : Value) (w : World) : Prop := s32_p2_d K t0 t9 (drw w) (drw w)
def s32_p2_den (K : Value → World → Prop) : (Nat → Value) → World → Prop := denL Tryd.prog [(cd (Tryd.f32.body.getD .skip) [1, 1, 1, 1, 1, 1, 1, 1, 1, 1, 1, 0])] (s32_p1_den K) (fun i => (fun _ _ => False)) (s32_R K)
theorem s32_p2_ok (K : Value → World → Prop) (s : Nat → Value) (w : World) (h : s32_p2 K (s 0) (s 9) w) : Tr (s32_p2_den K s w) :=
  tr_draw (P := Tryd.prog) (ops := (ro (cd (Tryd.f32.body.getD .skip) [1, 1, 1, 1, 1, 1, 1, 1, 1, 1, 1, 0]))) (ms := [0, 0, 2, 6, 14, 0, 32, 126, 255, 511, 1023]) (cs := [0, 1, 2, 3, 4, 5, 8, 9]) (N := (fun s w => s32_p1 K (s 0) w)) (N' := (s32_p1_den K)) (s := s) (w := w) (p := s32_p2 K (s 0) (s 9) w) (q := s32_p2_den K s w) (by kernel_rfl) (by kernel_rfl) (fun s w h => s32_p1_ok K s w @h) (by kernel_rfl) (by kernel_rfl) @h
def s32_p3 (K : Value → World → Prop) (t0 t8 t9 : Value) (w : World) : Prop :=
  fd 0 t9 (fun t66 w =>
  ld1 t66 (fun t67 w =>
  cvi .u32 t8 (fun t69 w =>
  boI .add t67 t69 (fun t70 w =>
  fd 3 t9 (fun t71 w =>
  st1 t71 t70 (fun w =>
  cl Tryd.prog 51 #[t0, t9] (fun t73 w =>
  boI .neq t73 (.int .i64 0) (fun t75 w =>
  ifb t75
  (K (.tuple #[(.int .i64 (-1)), t73]) w)
  (fd 3 t9 (fun t78 w =>
  ld1 t78 (fun t79 w =>
  nck t0 (fun t80 w =>
  fd 3 t80 (fun t81 w =>
  st1 t81 t79 (fun w =>
  s32_p2 K t0 t9 w) w) w) w) w) w)) w) w) w) w) w) w) w) w
def s32_p3_den (K : Value → World → Prop) : (Nat → Value) → World → Prop := denL Tryd.prog [(cd (Tryd.f32.body.getD .skip) [1, 1, 1, 1, 1, 1, 1, 1, 0]), (cd (Tryd.f32.body.getD .skip) [1, 1, 1, 1, 1, 1, 1, 1, 1, 0, 0]), (cd (Tryd.f32.body.getD .skip) [1, 1, 1, 1, 1, 1, 1, 1, 1, 0, 1, 0]), (cd (Tryd.f32.body.getD .skip) [1, 1, 1, 1, 1, 1, 1, 1, 1, 0, 1, 1]), (cd (Tryd.f32.body.getD .skip) [1, 1, 1, 1, 1, 1, 1, 1, 1, 1, 0])] (s32_p2_den K) (fun i => (fun _ _ => False)) (s32_R K)
theorem s32_p3_ok (K : Value → World → Prop) (s : Nat → Value) (w : World) (h : s32_p3 K (s 0) (s 8) (s 9) w) : Tr (s32_p3_den K s w) :=
  tr_simple (P := Tryd.prog) (codes := [(cd (Tryd.f32.body.getD .skip) [1, 1, 1, 1, 1, 1, 1, 1, 0]), (cd (Tryd.f32.body.getD .skip) [1, 1, 1, 1, 1, 1, 1, 1, 1, 0, 0]), (cd (Tryd.f32.body.getD .skip) [1, 1, 1, 1, 1, 1, 1, 1, 1, 0, 1, 0]), (cd (Tryd.f32.body.getD .skip) [1, 1, 1, 1, 1, 1, 1, 1, 1, 0, 1, 1]), (cd (Tryd.f32.body.getD .skip) [1, 1, 1, 1, 1, 1, 1, 1, 1, 1, 0])]) (N := (fun s w => s32_p2 K (s 0) (s 9) w)) (N' := (s32_p2_den K)) (X := (fun i => (fun _ _ => False))) (X' := (fun i => (fun _ _ => False))) (R := s32_R K) (s := s) (w := w) (p := s32_p3 K (s 0) (s 8) (s 9) w) (q := s32_p3_den K s w) (fun s w h => s32_p2_ok K s w @h) (fun i => tr_id) (by kernel_rfl) (by kernel_rfl) @h
def s32_p4_d (K : Value → World → Prop) (t0 t2 t8 t9 : Value) (w0 w : World) : Prop :=
  fd 1 t9 (fun t59 _ =>
  ld1 t59 (fun t60 _ =>
  fd 2 t9 (fun t65 _ =>
  cl Tryd.prog 50 #[t2] (fun t62 w =>
  Below w0.heap.size w0 w ∧
  cvi .u32 t62 (fun t63 w =>
  Below w0.heap.size w0 w ∧
  boI .add t60 t63 (fun t64 w =>
  st1 t65 t64 (fun w =>
  s32_p3 K t0 t8 t9 w) w) w) w) w) w0) w0) w0
def s32_p4 (K : Value → World → Prop) (t0 t2 t8 t9 : Value) (w : World) : Prop := s32_p4_d K t0 t2 t8 t9 (drw w) (drw w)
def s32_p4_den (K : Value → World → Prop) : (Nat → Value) → World → Prop := denL Tryd.prog [(cd (Tryd.f32.body.getD .skip) [1, 1, 1, 1, 1, 1, 1, 0])] (s32_p3_den K) (fun i => (fun _ _ => False)) (s32_R K)
theorem s32_p4_ok (K : Value → World → Prop) (s : Nat → Value) (w : World) (h : s32_p4 K (s 0) (s 2) (s 8) (s 9) w) : Tr (s32_p4_den K s w) :=
  tr_draw (P := Tryd.prog) (ops := (ro (cd (Tryd.f32.body.getD .skip) [1, 1, 1, 1, 1, 1, 1, 0]))) (ms := [0, 1, 0, 4, 12, 31, 63, 127]) (cs := [0, 1, 2, 6]) (N := (fun s w => s32_p3 K (s 0) (s 8) (s 9) w)) (N' := (s32_p3_den K)) (s := s) (w := w) (p := s32_p4 K (s 0) (s 2) (s 8) (s 9) w) (q := s32_p4_den K s w) (by kernel_rfl) (by kernel_rfl) (fun s w h => s32_p3_ok K s w @h) (by kernel_rfl) (by kernel_rfl) @h
def s32_p5 (K : Value → World → Prop) (t0 t1 t2 t8 t45 : Value) (w : World) : Prop :=
  ifb t45
  (K (.tuple #[(.int .i64 (-1)), (.int .i64 5)]) w)
  (nck t0 (fun t47 w =>
  fd 3 t47 (fun t48 w =>
  ld1 t48 (fun t49 w =>
  cvi .u32 t1 (fun t51 w =>
  cvi .u32 t2 (fun t53 w =>
  bdq [(.int .u32 0), (.int .u32 0), (.int .u32 0), (.int .u32 0), (.int .u32 0), (.int .u32 0)] [(some (0, 1), t49), (some (4, 1), t51), (some (5, 1), t53)] (fun t54 w =>
  nw 112 #[(.int .u32 0), (.int .u32 0), (.int .u32 0), (.int .u32 0), (.int .u32 0), (.int .u32 0)] (fun t9 w =>
  stn 6 t9 t54 (fun w =>
  fd 0 t9 (fun t55 w =>
  ld1 t55 (fun t56 w =>
  boI .add t56 (.int .u32 5) (fun t57 w =>
  fd 1 t9 (fun t58 w =>
  st1 t58 t57 (fun w =>
  s32_p4 K t0 t2 t8 t9 w) w) w) w) w) w) w) w) w) w) w) w) w) w)
def s32_p5_den (K : Value → World → Prop) : (Nat → Value) → World → Prop := denL Tryd.prog [(cd (Tryd.f32.body.getD .skip) [1, 1, 1, 1, 0, 1]), (cd (Tryd.f32.body.getD .skip) [1, 1, 1, 1, 1, 0]), (cd (Tryd.f32.body.getD .skip) [1, 1, 1, 1, 1, 1, 0])] (s32_p4_den K) (fun i => (fun _ _ => False)) (s32_R K)
theorem s32_p5_ok (K : Value → World → Prop) (s : Nat → Value) (w : World) (h : s32_p5 K (s 0) (s 1) (s 2) (s 8) (s 45) w) : Tr (s32_p5_den K s w) :=
  tr_simple (P := Tryd.prog) (codes := [(cd (Tryd.f32.body.getD .skip) [1, 1, 1, 1, 0, 1]), (cd (Tryd.f32.body.getD .skip) [1, 1, 1, 1, 1, 0]), (cd (Tryd.f32.body.getD .skip) [1, 1, 1, 1, 1, 1, 0])]) (N := (fun s w => s32_p4 K (s 0) (s 2) (s 8) (s 9) w)) (N' := (s32_p4_den K)) (X := (fun i => (fun _ _ => False))) (X' := (fun i => (fun _ _ => False))) (R := s32_R K) (s := s) (w := w) (p := s32_p5 K (s 0) (s 1) (s 2) (s 8) (s 45) w) (q := s32_p5_den K s w) (fun s w h => s32_p4_ok K s w @h) (fun i => tr_id) (by kernel_rfl) (by kernel_rfl) @h
def s32_p6_d (K : Value → World → Prop) (t0 t1 t2 t8 : Value) (w0 w : World) : Prop :=
  nck t0 (fun t36 _ =>
  fd 4 t36 (fun t37 _ =>
  ld1 t37 (fun t38 _ =>
  nck t0 (fun t40 _ =>
  fd 3 t40 (fun t41 _ =>
  ld1 t41 (fun t42 _ =>
  boI .sub t38 t42 (fun t43 _ =>
  cvi .u64 t43 (fun t44 _ =>
  boI .gtr t8 t44 (fun t45 _ =>
  s32_p5 K t0 t1 t2 t8 t45 w) w0) w0) w0) w0) w0) w0) w0) w0) w0
def s32_p6 (K : Value → World → Prop) (t0 t1 t2 t8 : Value) (w : World) : Prop := s32_p6_d K t0 t1 t2 t8 (drw w) (drw w)
def s32_p6_den (K : Value → World → Prop) : (Nat → Value) → World → Prop := denL Tryd.prog [(cd (Tryd.f32.body.getD .skip) [1, 1, 1, 1, 0, 0])] (s32_p5_den K) (fun i => (fun _ _ => False)) (s32_R K)
theorem s32_p6_ok (K : Value → World → Prop) (s : Nat → Value) (w : World) (h : s32_p6 K (s 0) (s 1) (s 2) (s 8) w) : Tr (s32_p6_den K s w) :=
  tr_draw (P := Tryd.prog) (ops := (ro (cd (Tryd.f32.body.getD .skip) [1, 1, 1, 1, 0, 0]))) (ms := [0, 0, 2, 6, 14, 0, 32, 96, 224, 510, 1022, 2047]) (cs := [0, 1, 2, 3, 4, 5, 6, 7, 8, 9, 10, 11]) (N := (fun s w => s32_p5 K (s 0) (s 1) (s 2) (s 8) (s 45) w)) (N' := (s32_p5_den K)) (s := s) (w := w) (p := s32_p6 K (s 0) (s 1) (s 2) (s 8) w) (q := s32_p6_den K s w) (by kernel_rfl) (by kernel_rfl) (fun s w h => s32_p5_ok K s w @h) (by kernel_rfl) (by kernel_rfl) @h
def s32_p7 (K : Value → World → Prop) (t0 t1 t2 : Value) (w : World) : Prop :=
  boI .lss t1 (.int .i64 1) (fun t12 w =>
  gd t12 false (fun K w => K t1 w) (fun t14 w =>
  gd t12 false (boI .gtr t14 (.int .i64 4096)) (fun t15 w =>
  pk t12 (.bool true) t15 (fun t16 w =>
  gd t16 false (fun K w => K t2 w) (fun t18 w =>
  gd t16 false (boI .lss t18 (.int .i64 1)) (fun t19 w =>
  pk t16 (.bool true) t19 (fun t20 w =>
  gd t20 false (fun K w => K t2 w) (fun t22 w =>
  gd t20 false (boI .gtr t22 (.int .i64 65536)) (fun t23 w =>
  pk t20 (.bool true) t23 (fun t24 w =>
  ifb t24
  (K (.tuple #[(.int .i64 (-1)), (.int .i64 3)]) w)
  (nck t0 (fun t26 w =>
  fd 5 t26 (fun t27 w =>
  ld1 t27 (fun t28 w =>
  lnS t28 (fun t29 w =>
  boI .geq t29 (.int .i64 8) (fun t30 w =>
  ifb t30
  (K (.tuple #[(.int .i64 (-1)), (.int .i64 4)]) w)
  (cl Tryd.prog 49 #[t1, t2] (fun t33 w =>
  s32_p6 K t0 t1 t2 t33 w) w)) w) w) w) w) w)) w) w) w) w) w) w) w) w) w) w
def s32_p7_den (K : Value → World → Prop) : (Nat → Value) → World → Prop := denL Tryd.prog [(cd (Tryd.f32.body.getD .skip) [0]), (cd (Tryd.f32.body.getD .skip) [1, 0, 0]), (cd (Tryd.f32.body.getD .skip) [1, 0, 1]), (cd (Tryd.f32.body.getD .skip) [1, 1, 0, 0]), (cd (Tryd.f32.body.getD .skip) [1, 1, 0, 1]), (cd (Tryd.f32.body.getD .skip) [1, 1, 1, 0])] (s32_p6_den K) (fun i => (fun _ _ => False)) (s32_R K)
theorem s32_p7_ok (K : Value → World → Prop) (s : Nat → Value) (w : World) (h : s32_p7 K (s 0) (s 1) (s 2) w) : Tr (s32_p7_den K s w) :=
  tr_simple (P := Tryd.prog) (codes := [(cd (Tryd.f32.body.getD .skip) [0]), (cd (Tryd.f32.body.getD .skip) [1, 0, 0]), (cd (Tryd.f32.body.getD .skip) [1, 0, 1]), (cd (Tryd.f32.body.getD .skip) [1, 1, 0, 0]), (cd (Tryd.f32.body.getD .skip) [1, 1, 0, 1]), (cd (Tryd.f32.body.getD .skip) [1, 1, 1, 0])]) (N := (fun s w => s32_p6 K (s 0) (s 1) (s 2) (s 8) w)) (N' := (s32_p6_den K)) (X := (fun i => (fun _ _ => False))) (X' := (fun i => (fun _ _ => False))) (R := s32_R K) (s := s) (w := w) (p := s32_p7 K (s 0) (s 1) (s 2) w) (q := s32_p7_den K s w) (fun s w h => s32_p6_ok K s w @h) (fun i => tr_id) (by kernel_rfl) (by kernel_rfl) @h
/-- the call, from the text -/
theorem c32 (t0 t1 t2 : Value) {K : Value → World → Prop} {w : World} (h : s32_p7 K t0 t1 t2 w) : cl Tryd.prog 32 #[t0, t1, t2] K w :=
  calls_of_tr (c := (Tryd.f32.body.getD .skip)) (fn := Tryd.f32) (q := s32_p7_den K (st0 #[t0, t1, t2]) w) Tryd.func32 (by kernel_rfl) (by kernel_rfl) (Nat.le_of_ble_eq_true (by kernel_rfl)) (by kernel_rfl) (by kernel_rfl) (s32_p7_ok K (st0 #[t0, t1, t2]) w @h)

/-! ### function 33 : (*e2e.pool.Table).Alloc -/
def s33_R (K : Value → World → Prop) (s : Nat → Value) (w : World) : Prop := retv Tryd.prog s Tryd.f33.results.toList (fun vs => K (pack vs) w) w
def s33_p1 (K : Value → World → Prop) (t13 : Value) (w : World) : Prop :=
  K (.tuple #[t13, (.int .i64 0)]) w
def s33_p1_den (K : Value → World → Prop) : (Nat → Value) → World → Prop := denL Tryd.prog [(cd (Tryd.f33.body.getD .skip) [1, 1, 1, 1, 1, 1, 1, 1, 1, 1, 1, 1, 1, 1, 1, 1, 1, 1, 1, 1, 1, 1, 1, 1, 0]), (cd (Tryd.f33.body.getD .skip) [1, 1, 1, 1, 1, 1, 1, 1, 1, 1, 1, 1, 1, 1, 1, 1, 1, 1, 1, 1, 1, 1, 1, 1, 1])] (fun _ _ => False) (fun i => (fun _ _ => False)) (s33_R K)
theorem s33_p1_ok (K : Value → World → Prop) (s : Nat → Value) (w : World) (h : s33_p1 K (s 13) w) : Tr (s33_p1_den K s w) :=
  tr_simple (P := Tryd.prog) (codes := [(cd (Tryd.f33.body.getD .skip) [1, 1, 1, 1, 1, 1, 1, 1, 1, 1, 1, 1, 1, 1, 1, 1, 1, 1, 1, 1, 1, 1, 1, 1, 0]), (cd (Tryd.f33.body.getD .skip) [1, 1, 1, 1, 1, 1, 1, 1, 1, 1, 1, 1, 1, 1, 1, 1, 1, 1, 1, 1, 1, 1, 1, 1, 1])]) (N := (fun _ _ => False)) (N' := (fun _ _ => False)) (X := (fun i => (fun _ _ => False))) (X' := (fun i => (fun _ _ => False))) (R := s33_R K) (s := s) (w := w) (p := s33_p1 K (s 13) w) (q := s33_p1_den K s w) tr_id (fun i => tr_id) (by kernel_rfl) (by kernel_rfl) @h
def s33_p2 (K : Value → World → Prop) (t4 t5 : Value) (w : World) : Prop :=
  K (.tuple #[t4, t5]) w
def s33_p2_den (K : Value → World → Prop) : (Nat → Value) → World → Prop := denL Tryd.prog [(cd (Tryd.f33.body.getD .skip) [1, 1, 1, 1, 1, 1, 1, 1, 1, 1, 1, 1, 1, 1, 1, 1, 1, 1, 1, 1, 1, 1, 1, 0, 1, 0, 1])] (fun _ _ => False) (fun i => (fun _ _ => False)) (s33_R K)
theorem s33_p2_ok (K : Value → World → Prop) (s : Nat → Value) (w : World) (h : s33_p2 K (s 4) (s 5) w) : Tr (s33_p2_den K s w) :=
  tr_simple (P := Tryd.prog) (codes := [(cd (Tryd.f33.body.getD .skip) [1, 1, 1, 1, 1, 1, 1, 1, 1, 1, 1, 1, 1, 1, 1, 1, 1, 1, 1, 1, 1, 1, 1, 0, 1, 0, 1])]) (N := (fun _ _ => False)) (N' := (fun _ _ => False)) (X := (fun i => (fun _ _ => False))) (X' := (fun i => (fun _ _ => False))) (R := s33_R K) (s := s) (w := w) (p := s33_p2 K (s 4) (s 5) w) (q := s33_p2_den K s w) tr_id (fun i => tr_id) (by kernel_rfl) (by kernel_rfl) @h
def s33_p3_d (K : Value → World → Prop) (t8 : Value) (w0 w : World) : Prop :=
  fd 1 t8 (fun t179 _ =>
  ld1 t179 (fun t180 _ =>
  s33_p2 K (.int .u32 0) t180 w) w0) w0
def s33_p3 (K : Value → World → Prop) (t8 : Value) (w : World) : Prop := s33_p3_d K t8 (drw w) (drw w)
def s33_p3_den (K : Value → World → Prop) : (Nat → Value) → World → Prop := denL Tryd.prog [(cd (Tryd.f33.body.getD .skip) [1, 1, 1, 1, 1, 1, 1, 1, 1, 1, 1, 1, 1, 1, 1, 1, 1, 1, 1, 1, 1, 1, 1, 0, 1, 0, 0])] (s33_p2_den K) (fun i => (fun _ _ => False)) (s33_R K)
theorem s33_p3_ok (K : Value → World → Prop) (s : Nat → Value) (w : World) (h : s33_p3 K (s 8) w) : Tr (s33_p3_den K s w) :=
  tr_draw (P := Tryd.prog) (ops := (ro (cd (Tryd.f33.body.getD .skip) [1, 1, 1, 1, 1, 1, 1, 1, 1, 1, 1, 1, 1, 1, 1, 1, 1, 1, 1, 1, 1, 1, 1, 0, 1, 0, 0]))) (ms := [0, 1, 0, 7]) (cs := [0, 1, 2, 3]) (N := (fun s w => s33_p2 K (s 4) (s 5) w)) (N' := (s33_p2_den K)) (s := s) (w := w) (p := s33_p3 K (s 8) w) (q := s33_p3_den K s w) (by kernel_rfl) (by kernel_rfl) (fun s w h => s33_p2_ok K s w @h) (by kernel_rfl) (by kernel_rfl) @h
def s33_p4 (K : Value → World → Prop) (t8 t13 t178 : Value) (w : World) : Prop :=
  ifb t178
  (s33_p3 K t8 w)
  (s33_p1 K t13 w)
def s33_p4_den (K : Value → World → Prop) : (Nat → Value) → World → Prop := fun s w => ifb (ev s (.tmp 178)) ((s33_p3_den K) s w) ((s33_p1_den K) s w)
theorem s33_p4_ok (K : Value → World → Prop) (s : Nat → Value) (w : World) (h : s33_p4 K (s 8) (s 13) (s 178) w) : Tr (s33_p4_den K s w) :=
  tr_cond (v := ev s (.tmp 178)) (a := (fun s w => s33_p3 K (s 8) w) s w) (a' := (s33_p3_den K) s w) (b := (fun s w => s33_p1 K (s 13) w) s w) (b' := (s33_p1_den K) s w) (p := s33_p4 K (s 8) (s 13) (s 178) w) (q := s33_p4_den K s w) ((fun s w h => s33_p3_ok K s w @h) s w) ((fun s w h => s33_p1_ok K s w @h) s w) (by kernel_rfl) (by kernel_rfl) @h
def s33_p5 (K : Value → World → Prop) (t8 t13 : Value) (w : World) : Prop :=
  fd 1 t8 (fun t176 w =>
  ld1 t176 (fun t177 w =>
  boI .neq t177 (.int .i64 0) (fun t178 w =>
  s33_p4 K t8 t13 t178 w) w) w) w
def s33_p5_den (K : Value → World → Prop) : (Nat → Value) → World → Prop := denL Tryd.prog [(cd (Tryd.f33.body.getD .skip) [1, 1, 1, 1, 1, 1, 1, 1, 1, 1, 1, 1, 1, 1, 1, 1, 1, 1, 1, 1, 1, 1, 1, 0, 0])] (s33_p4_den K) (fun i => (fun _ _ => False)) (s33_R K)
theorem s33_p5_ok (K : Value → World → Prop) (s : Nat → Value) (w : World) (h : s33_p5 K (s 8) (s 13) w) : Tr (s33_p5_den K s w) :=
  tr_simple (P := Tryd.prog) (codes := [(cd (Tryd.f33.body.getD .skip) [1, 1, 1, 1, 1, 1, 1, 1, 1, 1, 1, 1, 1, 1, 1, 1, 1, 1, 1, 1, 1, 1, 1, 0, 0])]) (N := (fun s w => s33_p4 K (s 8) (s 13) (s 178) w)) (N' := (s33_p4_den K)) (X := (fun i => (fun _ _ => False))) (X' := (fun i => (fun _ _ => False))) (R := s33_R K) (s := s) (w := w) (p := s33_p5 K (s 8) (s 13) w) (q := s33_p5_den K s w) (fun s w h => s33_p4_ok K s w @h) (fun i => tr_id) (by kernel_rfl) (by kernel_rfl) @h
def s33_p6 (K : Value → World → Prop) (t6 t8 t11 t13 t14 t15 t16 t17 t18 t19 : Value) (w : World) : Prop :=
  boI .and t16 t15 (fun t122 w =>
  boI .neq t122 (.int .u64 0) (fun t123 w =>
  gd t123 false (fun K w => K t17 w) (fun t125 w =>
  gd t123 false (fun K w => K t11 w) (fun t126 w =>
  gd t123 false (boI .gtr t125 t126) (fun t127 w =>
  pk t123 (.bool true) t127 (fun t128 w =>
  gd t128 false (fun K w => K t18 w) (fun t130 w =>
  gd t128 false (fun K w => K t11 w) (fun t131 w =>
  gd t128 false (boI .geq t130 t131) (fun t132 w =>
  pk t128 (.bool true) t132 (fun t133 w =>
  gd t133 false (fun K w => K t19 w) (fun t135 w =>
  gd t133 false (fun K w => K t18 w) (fun t136 w =>
  gd t133 false (boI .lss t135 t136) (fun t137 w =>
  pk t133 (.bool true) t137 (fun t138 w =>
  gd t138 false (fun K w => K t19 w) (fun t140 w =>
  gd t138 false (fun K w => K t11 w) (fun t141 w =>
  gd t138 false (boI .gtr t140 t141) (fun t142 w =>
  pk t138 (.bool true) t142 (fun t143 w =>
  ifb t143
  (K (.tuple #[(.int .u32 0), (.int .i64 11)]) w)
  (nck t6 (fun t145 w =>
  fd 0 t145 (fun t146 w =>
  ld1 t146 (fun t147 w =>
  boI .add t147 (.int .u32 1) (fun t148 w =>
  cl Tryd.prog 56 #[t8, t148, t17] (fun t150 w =>
  boI .or t16 t15 (fun t154 w =>
  cl Tryd.prog 56 #[t8, t14, t154] (fun t155 w =>
  nck t6 (fun t157 w =>
  fd 0 t157 (fun t158 w =>
  ld1 t158 (fun t159 w =>
  boI .add t159 (.int .u32 2) (fun t160 w =>
  boI .add t18 (.int .u64 1) (fun t162 w =>
  cl Tryd.prog 56 #[t8, t160, t162] (fun t163 w =>
  boI .add t18 (.int .u64 1) (fun t165 w =>
  boI .gtr t165 t19 (fun t167 w =>
  ifb t167
  (nck t6 (fun t169 w =>
  fd 0 t169 (fun t170 w =>
  ld1 t170 (fun t171 w =>
  boI .add t171 (.int .u32 3) (fun t172 w =>
  boI .add t18 (.int .u64 1) (fun t174 w =>
  cl Tryd.prog 56 #[t8, t172, t174] (fun t175 w =>
  s33_p5 K t8 t13 w) w) w) w) w) w) w)
  (s33_p5 K t8 t13 w)) w) w) w) w) w) w) w) w) w) w) w) w) w) w) w)) w) w) w) w) w) w) w) w) w) w) w) w) w) w) w) w) w) w
def s33_p6_den (K : Value → World → Prop) : (Nat → Value) → World → Prop := denL Tryd.prog [(cd (Tryd.f33.body.getD .skip) [1, 1, 1, 1, 1, 1, 1, 1, 1, 1, 1, 1, 1, 1, 1, 1, 1, 1, 0, 0]), (cd (Tryd.f33.body.getD .skip) [1, 1, 1, 1, 1, 1, 1, 1, 1, 1, 1, 1, 1, 1, 1, 1, 1, 1, 0, 1]), (cd (Tryd.f33.body.getD .skip) [1, 1, 1, 1, 1, 1, 1, 1, 1, 1, 1, 1, 1, 1, 1, 1, 1, 1, 1, 0]), (cd (Tryd.f33.body.getD .skip) [1, 1, 1, 1, 1, 1, 1, 1, 1, 1, 1, 1, 1, 1, 1, 1, 1, 1, 1, 1, 0]), (cd (Tryd.f33.body.getD .skip) [1, 1, 1, 1, 1, 1, 1, 1, 1, 1, 1, 1, 1, 1, 1, 1, 1, 1, 1, 1, 1, 0]), (cd (Tryd.f33.body.getD .skip) [1, 1, 1, 1, 1, 1, 1, 1, 1, 1, 1, 1, 1, 1, 1, 1, 1, 1, 1, 1, 1, 1, 0, 0]), (cd (Tryd.f33.body.getD .skip) [1, 1, 1, 1, 1, 1, 1, 1, 1, 1, 1, 1, 1, 1, 1, 1, 1, 1, 1, 1, 1, 1, 0, 1])] (s33_p5_den K) (fun i => (fun _ _ => False)) (s33_R K)
theorem s33_p6_ok (K : Value → World → Prop) (s : Nat → Value) (w : World) (h : s33_p6 K (s 6) (s 8) (s 11) (s 13) (s 14) (s 15) (s 16) (s 17) (s 18) (s 19) w) : Tr (s33_p6_den K s w) :=
  tr_simple (P := Tryd.prog) (codes := [(cd (Tryd.f33.body.getD .skip) [1, 1, 1, 1, 1, 1, 1, 1, 1, 1, 1, 1, 1, 1, 1, 1, 1, 1, 0, 0]), (cd (Tryd.f33.body.getD .skip) [1, 1, 1, 1, 1, 1, 1, 1, 1, 1, 1, 1, 1, 1, 1, 1, 1, 1, 0, 1]), (cd (Tryd.f33.body.getD .skip) [1, 1, 1, 1, 1, 1, 1, 1, 1, 1, 1, 1, 1, 1, 1, 1, 1, 1, 1, 0]), (cd (Tryd.f33.body.getD .skip) [1, 1, 1, 1, 1, 1, 1, 1, 1, 1, 1, 1, 1, 1, 1, 1, 1, 1, 1, 1, 0]), (cd (Tryd.f33.body.getD .skip) [1, 1, 1, 1, 1, 1, 1, 1, 1, 1, 1, 1, 1, 1, 1, 1, 1, 1, 1, 1, 1, 0]), (cd (Tryd.f33.body.getD .skip) [1, 1, 1, 1, 1, 1, 1, 1, 1, 1, 1, 1, 1, 1, 1, 1, 1, 1, 1, 1, 1, 1, 0, 0]), (cd (Tryd.f33.body.getD .skip) [1, 1, 1, 1, 1, 1, 1, 1, 1, 1, 1, 1, 1, 1, 1, 1, 1, 1, 1, 1, 1, 1, 0, 1])]) (N := (fun s w => s33_p5 K (s 8) (s 13) w)) (N' := (s33_p5_den K)) (X := (fun i => (fun _ _ => False))) (X' := (fun i => (fun _ _ => False))) (R := s33_R K) (s := s) (w := w) (p := s33_p6 K (s 6) (s 8) (s 11) (s 13) (s 14) (s 15) (s 16) (s 17) (s 18) (s 19) w) (q := s33_p6_den K s w) (fun s w h => s33_p5_ok K s w @h) (fun i => tr_id) (by kernel_rfl) (by kernel_rfl) @h
def s33_p7 (K : Value → World → Prop) (t4 t5 : Value) (w : World) : Prop :=
  K (.tuple #[t4, t5]) w
def s33_p7_den (K : Value → World → Prop) : (Nat → Value) → World → Prop := denL Tryd.prog [(cd (Tryd.f33.body.getD .skip) [1, 1, 1, 1, 1, 1, 1, 1, 1, 1, 1, 1, 1, 1, 1, 1, 1, 0, 1, 0, 1])] (fun _ _ => False) (fun i => (fun _ _ => False)) (s33_R K)
theorem s33_p7_ok (K : Value → World → Prop) (s : Nat → Value) (w : World) (h : s33_p7 K (s 4) (s 5) w) : Tr (s33_p7_den K s w) :=
  tr_simple (P := Tryd.prog) (codes := [(cd (Tryd.f33.body.getD .skip) [1, 1, 1, 1, 1, 1, 1, 1, 1, 1, 1, 1, 1, 1, 1, 1, 1, 0, 1, 0, 1])]) (N := (fun _ _ => False)) (N' := (fun _ _ => False)) (X := (fun i => (fun _ _ => False))) (X' := (fun i => (fun _ _ => False))) (R := s33_R K) (s := s) (w := w) (p := s33_p7 K (s 4) (s 5) w) (q := s33_p7_den K s w) tr_id (fun i => tr_id) (by kernel_rfl) (by kernel_rfl) @h
def s33_p8_d (K : Value → World → Prop) (t8 : Value) (w0 w : World) : Prop :=
  fd 1 t8 (fun t118 _ =>
  ld1 t118 (fun t119 _ =>
  s33_p7 K (.int .u32 0) t119 w) w0) w0
def s33_p8 (K : Value → World → Prop) (t8 : Value) (w : World) : Prop := s33_p8_d K t8 (drw w) (drw w)
def s33_p8_den (K : Value → World → Prop) : (Nat → Value) → World → Prop := denL Tryd.prog [(cd (Tryd.f33.body.getD .skip) [1, 1, 1, 1, 1, 1, 1, 1, 1, 1, 1, 1, 1, 1, 1, 1, 1, 0, 1, 0, 0])] (s33_p7_den K) (fun i => (fun _ _ => False)) (s33_R K)
theorem s33_p8_ok (K : Value → World → Prop) (s : Nat → Value) (w : World) (h : s33_p8 K (s 8) w) : Tr (s33_p8_den K s w) :=
  tr_draw (P := Tryd.prog) (ops := (ro (cd (Tryd.f33.body.getD .skip) [1, 1, 1, 1, 1, 1, 1, 1, 1, 1, 1, 1, 1, 1, 1, 1, 1, 0, 1, 0, 0]))) (ms := [0, 1, 0, 7]) (cs := [0, 1, 2, 3]) (N := (fun s w => s33_p7 K (s 4) (s 5) w)) (N' := (s33_p7_den K)) (s := s) (w := w) (p := s33_p8 K (s 8) w) (q := s33_p8_den K s w) (by kernel_rfl) (by kernel_rfl) (fun s w h => s33_p7_ok K s w @h) (by kernel_rfl) (by kernel_rfl) @h
def s33_p9 (K : Value → World → Prop) (t6 t8 t11 t13 t14 t15 t16 t17 t18 t19 t117 : Value) (w : World) : Prop :=
  ifb t117
  (s33_p8 K t8 w)
  (s33_p6 K t6 t8 t11 t13 t14 t15 t16 t17 t18 t19 w)
def s33_p9_den (K : Value → World → Prop) : (Nat → Value) → World → Prop := fun s w => ifb (ev s (.tmp 117)) ((s33_p8_den K) s w) ((s33_p6_den K) s w)
theorem s33_p9_ok (K : Value → World → Prop) (s : Nat → Value) (w : World) (h : s33_p9 K (s 6) (s 8) (s 11) (s 13) (s 14) (s 15) (s 16) (s 17) (s 18) (s 19) (s 117) w) : Tr (s33_p9_den K s w) :=
  tr_cond (v := ev s (.tmp 117)) (a := (fun s w => s33_p8 K (s 8) w) s w) (a' := (s33_p8_den K) s w) (b := (fun s w => s33_p6 K (s 6) (s 8) (s 11) (s 13) (s 14) (s 15) (s 16) (s 17) (s 18) (s 19) w) s w) (b' := (s33_p6_den K) s w) (p := s33_p9 K (s 6) (s 8) (s 11) (s 13) (s 14) (s 15) (s 16) (s 17) (s 18) (s 19) (s 117) w) (q := s33_p9_den K s w) ((fun s w h => s33_p8_ok K s w @h) s w) ((fun s w h => s33_p6_ok K s w @h) s w) (by kernel_rfl) (by kernel_rfl) @h
def s33_p10 (K : Value → World → Prop) (t0 t1 : Value) (w : World) : Prop :=
  cl Tryd.prog 46 #[t0, t1] (fun t23 w =>
  exq t23 0 (fun t24 w =>
  exq t23 1 (fun t25 w =>
  boI .neq t25 (.int .i64 0) (fun t27 w =>
  ifb t27
  (K (.tuple #[(.int .u32 0), t25]) w)
  (nck t0 (fun t30 w =>
  fd 0 t30 (fun t31 w =>
  ld1 t31 (fun t32 w =>
  cl Tryd.prog 52 #[t32, (.int .u64 1)] (fun t33 w =>
  nck t0 (fun t35 w =>
  fd 0 t35 (fun t36 w =>
  ld1 t36 (fun t37 w =>
  bdq [(.pointer none), (.int .i64 0)] [(some (0, 1), t37)] (fun t38 w =>
  nw 121 #[(.pointer none), (.int .i64 0)] (fun t8 w =>
  stn 2 t8 t38 (fun w =>
  cl Tryd.prog 53 #[t8, t24] (fun t40 w =>
  un .not t40 (fun t41 w =>
  ifb t41
  (cl Tryd.prog 54 #[t8, (.int .i64 11)] (fun t42 w =>
  K (.tuple #[(.int .u32 0), t42]) w) w)
  (nck t24 (fun t44 w =>
  fd 0 t44 (fun t45 w =>
  ld1 t45 (fun t46 w =>
  boI .add t46 (.int .u32 1) (fun t47 w =>
  cl Tryd.prog 55 #[t8, t47] (fun t48 w =>
  boI .eql t48 (.int .u64 0) (fun t50 w =>
  gd t50 true (fd 1 t8) (fun t52 w =>
  gd t50 true (ld1 t52) (fun t53 w =>
  gd t50 true (boI .eql t53 (.int .i64 0)) (fun t54 w =>
  pk t50 t54 (.bool false) (fun t55 w =>
  ifb t55
  (nck t24 (fun t57 w =>
  fd 0 t57 (fun t58 w =>
  ld1 t58 (fun t59 w =>
  boI .add t59 (.int .u32 4) (fun t60 w =>
  cl Tryd.prog 55 #[t8, t60] (fun t61 w =>
  boI .neq t61 (.int .u64 18446744073709551615) (fun t63 w =>
  ifb t63
  (nck t24 (fun t65 w =>
  fd 0 t65 (fun t66 w =>
  ld1 t66 (fun t67 w =>
  boI .add t67 (.int .u32 4) (fun t68 w =>
  boI .add t61 (.int .u64 1) (fun t70 w =>
  cl Tryd.prog 56 #[t8, t68, t70] (fun t71 w =>
  cl Tryd.prog 54 #[t8, (.int .i64 7)] (fun t72 w =>
  K (.tuple #[(.int .u32 0), t72]) w) w) w) w) w) w) w) w)
  (cl Tryd.prog 54 #[t8, (.int .i64 7)] (fun t72_2 w =>
  K (.tuple #[(.int .u32 0), t72_2]) w) w)) w) w) w) w) w) w)
  (nck t24 (fun t74 w =>
  fd 5 t74 (fun t75 w =>
  ld1 t75 (fun t76 w =>
  cvi .u64 t76 (fun t77 w =>
  boI .gtr t48 t77 (fun t80 w =>
  gd t80 false (fd 1 t8) (fun t82 w =>
  gd t80 false (ld1 t82) (fun t83 w =>
  gd t80 false (boI .neq t83 (.int .i64 0)) (fun t84 w =>
  pk t80 (.bool true) t84 (fun t85 w =>
  ifb t85
  (cl Tryd.prog 54 #[t8, (.int .i64 11)] (fun t86 w =>
  K (.tuple #[(.int .u32 0), t86]) w) w)
  (boI .sub t48 (.int .u64 1) (fun t88 w =>
  cvi .u32 t88 (fun t89 w =>
  cl Tryd.prog 57 #[t24, t89] (fun t92 w =>
  cl Tryd.prog 58 #[t24, t89] (fun t96 w =>
  exq t96 0 (fun t97 w =>
  exq t96 1 (fun t98 w =>
  cl Tryd.prog 55 #[t8, t97] (fun t100 w =>
  cl Tryd.prog 55 #[t8, t92] (fun t102 w =>
  nck t24 (fun t104 w =>
  fd 0 t104 (fun t105 w =>
  ld1 t105 (fun t106 w =>
  boI .add t106 (.int .u32 2) (fun t107 w =>
  cl Tryd.prog 55 #[t8, t107] (fun t108 w =>
  nck t24 (fun t110 w =>
  fd 0 t110 (fun t111 w =>
  ld1 t111 (fun t112 w =>
  boI .add t112 (.int .u32 3) (fun t113 w =>
  cl Tryd.prog 55 #[t8, t113] (fun t114 w =>
  fd 1 t8 (fun t115 w =>
  ld1 t115 (fun t116 w =>
  boI .neq t116 (.int .i64 0) (fun t117 w =>
  s33_p9 K t24 t8 t77 t92 t97 t98 t100 t102 t108 t114 t117 w) w) w) w) w) w) w) w) w) w) w) w) w) w) w) w) w) w) w) w) w) w)) w) w) w) w) w) w) w) w) w)) w) w) w) w) w) w) w) w) w) w)) w) w) w) w) w) w) w) w) w) w) w) w)) w) w) w) w
def s33_p10_den (K : Value → World → Prop) : (Nat → Value) → World → Prop := denL Tryd.prog [(cd (Tryd.f33.body.getD .skip) [0]), (cd (Tryd.f33.body.getD .skip) [1, 0]), (cd (Tryd.f33.body.getD .skip) [1, 1, 0, 0]), (cd (Tryd.f33.body.getD .skip) [1, 1, 0, 1]), (cd (Tryd.f33.body.getD .skip) [1, 1, 1, 0]), (cd (Tryd.f33.body.getD .skip) [1, 1, 1, 1, 0]), (cd (Tryd.f33.body.getD .skip) [1, 1, 1, 1, 1, 0, 0]), (cd (Tryd.f33.body.getD .skip) [1, 1, 1, 1, 1, 0, 1]), (cd (Tryd.f33.body.getD .skip) [1, 1, 1, 1, 1, 1, 0]), (cd (Tryd.f33.body.getD .skip) [1, 1, 1, 1, 1, 1, 1, 0, 0]), (cd (Tryd.f33.body.getD .skip) [1, 1, 1, 1, 1, 1, 1, 0, 1]), (cd (Tryd.f33.body.getD .skip) [1, 1, 1, 1, 1, 1, 1, 1, 0]), (cd (Tryd.f33.body.getD .skip) [1, 1, 1, 1, 1, 1, 1, 1, 1, 0, 0]), (cd (Tryd.f33.body.getD .skip) [1, 1, 1, 1, 1, 1, 1, 1, 1, 0, 1]), (cd (Tryd.f33.body.getD .skip) [1, 1, 1, 1, 1, 1, 1, 1, 1, 1, 0]), (cd (Tryd.f33.body.getD .skip) [1, 1, 1, 1, 1, 1, 1, 1, 1, 1, 1, 0]), (cd (Tryd.f33.body.getD .skip) [1, 1, 1, 1, 1, 1, 1, 1, 1, 1, 1, 1, 0]), (cd (Tryd.f33.body.getD .skip) [1, 1, 1, 1, 1, 1, 1, 1, 1, 1, 1, 1, 1, 0]), (cd (Tryd.f33.body.getD .skip) [1, 1, 1, 1, 1, 1, 1, 1, 1, 1, 1, 1, 1, 1, 0]), (cd (Tryd.f33.body.getD .skip) [1, 1, 1, 1, 1, 1, 1, 1, 1, 1, 1, 1, 1, 1, 1, 0]), (cd (Tryd.f33.body.getD .skip) [1, 1, 1, 1, 1, 1, 1, 1, 1, 1, 1, 1, 1, 1, 1, 1, 0]), (cd (Tryd.f33.body.getD .skip) [1, 1, 1, 1, 1, 1, 1, 1, 1, 1, 1, 1, 1, 1, 1, 1, 1, 0, 0])] (s33_p9_den K) (fun i => (fun _ _ => False)) (s33_R K)
theorem s33_p10_ok (K : Value → World → Prop) (s : Nat → Value) (w : World) (h : s33_p10 K (s 0) (s 1) w) : Tr (s33_p10_den K s w) :=
  tr_simple (P := Tryd.prog) (codes := [(cd (Tryd.f33.body.getD .skip) [0]), (cd (Tryd.f33.body.getD .skip) [1, 0]), (cd (Tryd.f33.body.getD .skip) [1, 1, 0, 0]), (cd (Tryd.f33.body.getD .skip) [1, 1, 0, 1]), (cd (Tryd.f33.body.getD .skip) [1, 1, 1, 0]), (cd (Tryd.f33.body.getD .skip) [1, 1, 1, 1, 0]), (cd (Tryd.f33.body.getD .skip) [1, 1, 1, 1, 1, 0, 0]), (cd (Tryd.f33.body.getD .skip) [1, 1, 1, 1, 1, 0, 1]), (cd (Tryd.f33.body.getD .skip) [1, 1, 1, 1, 1, 1, 0]), (cd (Tryd.f33.body.getD .skip) [1, 1, 1, 1, 1, 1, 1, 0, 0]), (cd (Tryd.f33.body.getD .skip) [1, 1, 1, 1, 1, 1, 1, 0, 1]), (cd (Tryd.f33.body.getD .skip) [1, 1, 1, 1, 1, 1, 1, 1, 0]), (cd (Tryd.f33.body.getD .skip) [1, 1, 1, 1, 1, 1, 1, 1, 1, 0, 0]), (cd (Tryd.f33.body.getD .skip) [1, 1, 1, 1, 1, 1, 1, 1, 1, 0, 1]), (cd (Tryd.f33.body.getD .skip) [1, 1, 1, 1, 1, 1, 1, 1, 1, 1, 0]), (cd (Tryd.f33.body.getD .skip) [1, 1, 1, 1, 1, 1, 1, 1, 1, 1, 1, 0]), (cd (Tryd.f33.body.getD .skip) [1, 1, 1, 1, 1, 1, 1, 1, 1, 1, 1, 1, 0]), (cd (Tryd.f33.body.getD .skip) [1, 1, 1, 1, 1, 1, 1, 1, 1, 1, 1, 1, 1, 0]), (cd (Tryd.f33.body.getD .skip) [1, 1, 1, 1, 1, 1, 1, 1, 1, 1, 1, 1, 1, 1, 0]), (cd (Tryd.f33.body.getD .skip) [1, 1, 1, 1, 1, 1, 1, 1, 1, 1, 1, 1, 1, 1, 1, 0]), (cd (Tryd.f33.body.getD .skip) [1, 1, 1, 1, 1, 1, 1, 1, 1, 1, 1, 1, 1, 1, 1, 1, 0]), (cd (Tryd.f33.body.getD .skip) [1, 1, 1, 1, 1, 1, 1, 1, 1, 1, 1, 1, 1, 1, 1, 1, 1, 0, 0])]) (N := (fun s w => s33_p9 K (s 6) (s 8) (s 11) (s 13) (s 14) (s 15) (s 16) (s 17) (s 18) (s 19) (s 117) w)) (N' := (s33_p9_den K)) (X := (fun i => (fun _ _ => False))) (X' := (fun i => (fun _ _ => False))) (R := s33_R K) (s := s) (w := w) (p := s33_p10 K (s 0) (s 1) w) (q := s33_p10_den K s w) (fun s w h => s33_p9_ok K s w @h) (fun i => tr_id) (by kernel_rfl) (by kernel_rfl) @h
/-- the call, from the text -/
theorem c33 (t0 t1 : Value) {K : Value → World → Prop} {w : World} (h : s33_p10 K t0 t1 w) : cl Tryd.prog 33 #[t0, t1] K w :=
  calls_of_tr (c := (Tryd.f33.body.getD .skip)) (fn := Tryd.f33) (q := s33_p10_den K (st0 #[t0, t1]) w) Tryd.func33 (by kernel_rfl) (by kernel_rfl) (Nat.le_of_ble_eq_true (by kernel_rfl)) (by kernel_rfl) (by kernel_rfl) (s33_p10_ok K (st0 #[t0, t1]) w @h)

/-! ### function 34 : (*e2e.pool.Table).Free -/
def s34_R (K : Value → World → Prop) (s : Nat → Value) (w : World) : Prop := retv Tryd.prog s Tryd.f34.results.toList (fun vs => K (pack vs) w) w
def s34_p1 (K : Value → World → Prop) (t0 t1 t2 : Value) (w : World) : Prop :=
  cl Tryd.prog 46 #[t0, t1] (fun t20 w =>
  exq t20 0 (fun t21 w =>
  exq t20 1 (fun t22 w =>
  boI .neq t22 (.int .i64 0) (fun t24 w =>
  ifb t24
  (K t22 w)
  (nck t0 (fun t27 w =>
  fd 0 t27 (fun t28 w =>
  ld1 t28 (fun t29 w =>
  cl Tryd.prog 52 #[t29, (.int .u64 1)] (fun t30 w =>
  cl Tryd.prog 59 #[t21, t2] (fun t34 w =>
  exq t34 0 (fun t35 w =>
  exq t34 1 (fun t36 w =>
  boI .neq t36 (.int .i64 0) (fun t38 w =>
  ifb t38
  (K t36 w)
  (nck t0 (fun t41 w =>
  fd 0 t41 (fun t42 w =>
  ld1 t42 (fun t43 w =>
  bdq [(.pointer none), (.int .i64 0)] [(some (0, 1), t43)] (fun t44 w =>
  nw 121 #[(.pointer none), (.int .i64 0)] (fun t10 w =>
  stn 2 t10 t44 (fun w =>
  cl Tryd.prog 53 #[t10, t21] (fun t46 w =>
  un .not t46 (fun t47 w =>
  ifb t47
  (cl Tryd.prog 54 #[t10, (.int .i64 11)] (fun t48 w =>
  K t48 w) w)
  (cl Tryd.prog 58 #[t21, t35] (fun t52 w =>
  exq t52 0 (fun t53 w =>
  exq t52 1 (fun t54 w =>
  cl Tryd.prog 55 #[t10, t53] (fun t56 w =>
  nck t21 (fun t58 w =>
  fd 0 t58 (fun t59 w =>
  ld1 t59 (fun t60 w =>
  boI .add t60 (.int .u32 1) (fun t61 w =>
  cl Tryd.prog 55 #[t10, t61] (fun t62 w =>
  nck t21 (fun t64 w =>
  fd 0 t64 (fun t65 w =>
  ld1 t65 (fun t66 w =>
  boI .add t66 (.int .u32 2) (fun t67 w =>
  cl Tryd.prog 55 #[t10, t67] (fun t68 w =>
  fd 1 t10 (fun t69 w =>
  ld1 t69 (fun t70 w =>
  boI .neq t70 (.int .i64 0) (fun t71 w =>
  ifb t71
  (fd 1 t10 (fun t72 w =>
  ld1 t72 (fun t73 w =>
  K t73 w) w) w)
  (boI .and t56 t54 (fun t76 w =>
  boI .eql t76 (.int .u64 0) (fun t77 w =>
  ifb t77
  (K (.int .i64 10) w)
  (nck t21 (fun t79 w =>
  fd 5 t79 (fun t80 w =>
  ld1 t80 (fun t81 w =>
  cvi .u64 t81 (fun t82 w =>
  boI .gtr t62 t82 (fun t85 w =>
  gd t85 false (fun K w => K t68 w) (fun t87 w =>
  gd t85 false (boI .eql t87 (.int .u64 0)) (fun t88 w =>
  pk t85 (.bool true) t88 (fun t89 w =>
  gd t89 false (fun K w => K t68 w) (fun t91 w =>
  gd t89 false (fun K w => K t82 w) (fun t92 w =>
  gd t89 false (boI .gtr t91 t92) (fun t93 w =>
  pk t89 (.bool true) t93 (fun t94 w =>
  ifb t94
  (K (.int .i64 11) w)
  (cl Tryd.prog 56 #[t10, t2, t62] (fun t97 w =>
  nck t21 (fun t99 w =>
  fd 0 t99 (fun t100 w =>
  ld1 t100 (fun t101 w =>
  boI .add t101 (.int .u32 1) (fun t102 w =>
  cvi .u64 t35 (fun t104 w =>
  boI .add t104 (.int .u64 1) (fun t105 w =>
  cl Tryd.prog 56 #[t10, t102, t105] (fun t106 w =>
  boI .andNot t56 t54 (fun t110 w =>
  cl Tryd.prog 56 #[t10, t53, t110] (fun t111 w =>
  nck t21 (fun t113 w =>
  fd 0 t113 (fun t114 w =>
  ld1 t114 (fun t115 w =>
  boI .add t115 (.int .u32 2) (fun t116 w =>
  boI .sub t68 (.int .u64 1) (fun t118 w =>
  cl Tryd.prog 56 #[t10, t116, t118] (fun t119 w =>
  fd 1 t10 (fun t120 w =>
  ld1 t120 (fun t121 w =>
  K t121 w) w) w) w) w) w) w) w) w) w) w) w) w) w) w) w) w) w) w)) w) w) w) w) w) w) w) w) w) w) w) w)) w) w)) w) w) w) w) w) w) w) w) w) w) w) w) w) w) w) w) w)) w) w) w) w) w) w) w) w)) w) w) w) w) w) w) w) w)) w) w) w) w
def s34_p1_den (K : Value → World → Prop) : (Nat → Value) → World → Prop := denL Tryd.prog [(cd (Tryd.f34.body.getD .skip) [0]), (cd (Tryd.f34.body.getD .skip) [1, 0]), (cd (Tryd.f34.body.getD .skip) [1, 1, 0, 0]), (cd (Tryd.f34.body.getD .skip) [1, 1, 0, 1]), (cd (Tryd.f34.body.getD .skip) [1, 1, 1, 0]), (cd (Tryd.f34.body.getD .skip) [1, 1, 1, 1, 0]), (cd (Tryd.f34.body.getD .skip) [1, 1, 1, 1, 1, 0, 0]), (cd (Tryd.f34.body.getD .skip) [1, 1, 1, 1, 1, 0, 1]), (cd (Tryd.f34.body.getD .skip) [1, 1, 1, 1, 1, 1, 0]), (cd (Tryd.f34.body.getD .skip) [1, 1, 1, 1, 1, 1, 1, 0, 0]), (cd (Tryd.f34.body.getD .skip) [1, 1, 1, 1, 1, 1, 1, 0, 1]), (cd (Tryd.f34.body.getD .skip) [1, 1, 1, 1, 1, 1, 1, 1, 0]), (cd (Tryd.f34.body.getD .skip) [1, 1, 1, 1, 1, 1, 1, 1, 1, 0]), (cd (Tryd.f34.body.getD .skip) [1, 1, 1, 1, 1, 1, 1, 1, 1, 1, 0]), (cd (Tryd.f34.body.getD .skip) [1, 1, 1, 1, 1, 1, 1, 1, 1, 1, 1, 0]), (cd (Tryd.f34.body.getD .skip) [1, 1, 1, 1, 1, 1, 1, 1, 1, 1, 1, 1, 0, 0]), (cd (Tryd.f34.body.getD .skip) [1, 1, 1, 1, 1, 1, 1, 1, 1, 1, 1, 1, 0, 1]), (cd (Tryd.f34.body.getD .skip) [1, 1, 1, 1, 1, 1, 1, 1, 1, 1, 1, 1, 1, 0, 0]), (cd (Tryd.f34.body.getD .skip) [1, 1, 1, 1, 1, 1, 1, 1, 1, 1, 1, 1, 1, 0, 1]), (cd (Tryd.f34.body.getD .skip) [1, 1, 1, 1, 1, 1, 1, 1, 1, 1, 1, 1, 1, 1, 0, 0]), (cd (Tryd.f34.body.getD .skip) [1, 1, 1, 1, 1, 1, 1, 1, 1, 1, 1, 1, 1, 1, 0, 1, 0]), (cd (Tryd.f34.body.getD .skip) [1, 1, 1, 1, 1, 1, 1, 1, 1, 1, 1, 1, 1, 1, 0, 1, 1]), (cd (Tryd.f34.body.getD .skip) [1, 1, 1, 1, 1, 1, 1, 1, 1, 1, 1, 1, 1, 1, 1, 0]), (cd (Tryd.f34.body.getD .skip) [1, 1, 1, 1, 1, 1, 1, 1, 1, 1, 1, 1, 1, 1, 1, 1, 0]), (cd (Tryd.f34.body.getD .skip) [1, 1, 1, 1, 1, 1, 1, 1, 1, 1, 1, 1, 1, 1, 1, 1, 1, 0]), (cd (Tryd.f34.body.getD .skip) [1, 1, 1, 1, 1, 1, 1, 1, 1, 1, 1, 1, 1, 1, 1, 1, 1, 1, 0]), (cd (Tryd.f34.body.getD .skip) [1, 1, 1, 1, 1, 1, 1, 1, 1, 1, 1, 1, 1, 1, 1, 1, 1, 1, 1, 0]), (cd (Tryd.f34.body.getD .skip) [1, 1, 1, 1, 1, 1, 1, 1, 1, 1, 1, 1, 1, 1, 1, 1, 1, 1, 1, 1])] (fun _ _ => False) (fun i => (fun _ _ => False)) (s34_R K)
theorem s34_p1_ok (K : Value → World → Prop) (s : Nat → Value) (w : World) (h : s34_p1 K (s 0) (s 1) (s 2) w) : Tr (s34_p1_den K s w) :=
  tr_simple (P := Tryd.prog) (codes := [(cd (Tryd.f34.body.getD .skip) [0]), (cd (Tryd.f34.body.getD .skip) [1, 0]), (cd (Tryd.f34.body.getD .skip) [1, 1, 0, 0]), (cd (Tryd.f34.body.getD .skip) [1, 1, 0, 1]), (cd (Tryd.f34.body.getD .skip) [1, 1, 1, 0]), (cd (Tryd.f34.body.getD .skip) [1, 1, 1, 1, 0]), (cd (Tryd.f34.body.getD .skip) [1, 1, 1, 1, 1, 0, 0]), (cd (Tryd.f34.body.getD .skip) [1, 1, 1, 1, 1, 0, 1]), (cd (Tryd.f34.body.getD .skip) [1, 1, 1, 1, 1, 1, 0]), (cd (Tryd.f34.body.getD .skip) [1, 1, 1, 1, 1, 1, 1, 0, 0]), (cd (Tryd.f34.body.getD .skip) [1, 1, 1, 1, 1, 1, 1, 0, 1]), (cd (Tryd.f34.body.getD .skip) [1, 1, 1, 1, 1, 1, 1, 1, 0]), (cd (Tryd.f34.body.getD .skip) [1, 1, 1, 1, 1, 1, 1, 1, 1, 0]), (cd (Tryd.f34.body.getD .skip) [1, 1, 1, 1, 1, 1, 1, 1, 1, 1, 0]), (cd (Tryd.f34.body.getD .skip) [1, 1, 1, 1, 1, 1, 1, 1, 1, 1, 1, 0]), (cd (Tryd.f34.body.getD .skip) [1, 1, 1, 1, 1, 1, 1, 1, 1, 1, 1, 1, 0, 0]), (cd (Tryd.f34.body.getD .skip) [1, 1, 1, 1, 1, 1, 1, 1, 1, 1, 1, 1, 0, 1]), (cd (Tryd.f34.body.getD .skip) [1, 1, 1, 1, 1, 1, 1, 1, 1, 1, 1, 1, 1, 0, 0]), (cd (Tryd.f34.body.getD .skip) [1, 1, 1, 1, 1, 1, 1, 1, 1, 1, 1, 1, 1, 0, 1]), (cd (Tryd.f34.body.getD .skip) [1, 1, 1, 1, 1, 1, 1, 1, 1, 1, 1, 1, 1, 1, 0, 0]), (cd (Tryd.f34.body.getD .skip) [1, 1, 1, 1, 1, 1, 1, 1, 1, 1, 1, 1, 1, 1, 0, 1, 0]), (cd (Tryd.f34.body.getD .skip) [1, 1, 1, 1, 1, 1, 1, 1, 1, 1, 1, 1, 1, 1, 0, 1, 1]), (cd (Tryd.f34.body.getD .skip) [1, 1, 1, 1, 1, 1, 1, 1, 1, 1, 1, 1, 1, 1, 1, 0]), (cd (Tryd.f34.body.getD .skip) [1, 1, 1, 1, 1, 1, 1, 1, 1, 1, 1, 1, 1, 1, 1, 1, 0]), (cd (Tryd.f34.body.getD .skip) [1, 1, 1, 1, 1, 1, 1, 1, 1, 1, 1, 1, 1, 1, 1, 1, 1, 0]), (cd (Tryd.f34.body.getD .skip) [1, 1, 1, 1, 1, 1, 1, 1, 1, 1, 1, 1, 1, 1, 1, 1, 1, 1, 0]), (cd (Tryd.f34.body.getD .skip) [1, 1, 1, 1, 1, 1, 1, 1, 1, 1, 1, 1, 1, 1, 1, 1, 1, 1, 1, 0]), (cd (Tryd.f34.body.getD .skip) [1, 1, 1, 1, 1, 1, 1, 1, 1, 1, 1, 1, 1, 1, 1, 1, 1, 1, 1, 1])]) (N := (fun _ _ => False)) (N' := (fun _ _ => False)) (X := (fun i => (fun _ _ => False))) (X' := (fun i => (fun _ _ => False))) (R := s34_R K) (s := s) (w := w) (p := s34_p1 K (s 0) (s 1) (s 2) w) (q := s34_p1_den K s w) tr_id (fun i => tr_id) (by kernel_rfl) (by kernel_rfl) @h
/-- the call, from the text -/
theorem c34 (t0 t1 t2 : Value) {K : Value → World → Prop} {w : World} (h : s34_p1 K t0 t1 t2 w) : cl Tryd.prog 34 #[t0, t1, t2] K w :=
  calls_of_tr (c := (Tryd.f34.body.getD .skip)) (fn := Tryd.f34) (q := s34_p1_den K (st0 #[t0, t1, t2]) w) Tryd.func34 (by kernel_rfl) (by kernel_rfl) (Nat.le_of_ble_eq_true (by kernel_rfl)) (by kernel_rfl) (by kernel_rfl) (s34_p1_ok K (st0 #[t0, t1, t2]) w @h)

/-! ### function 35 : (*e2e.pool.Table).Release -/
def s35_R (K : Value → World → Prop) (s : Nat → Value) (w : World) : Prop := retv Tryd.prog s Tryd.f35.results.toList (fun vs => K (pack vs) w) w
def s35_p1 (K : Value → World → Prop) (t0 t1 : Value) (w : World) : Prop :=
  cl Tryd.prog 36 #[t0, t1] (fun t10 w =>
  exq t10 0 (fun t11 w =>
  exq t10 1 (fun t12 w =>
  boI .neq t12 (.int .i64 0) (fun t14 w =>
  ifb t14
  (K t12 w)
  (cl Tryd.prog 34 #[t0, t11, t1] (fun t19 w =>
  K t19 w) w)) w) w) w) w
def s35_p1_den (K : Value → World → Prop) : (Nat → Value) → World → Prop := denL Tryd.prog [(cd (Tryd.f35.body.getD .skip) [0]), (cd (Tryd.f35.body.getD .skip) [1, 0]), (cd (Tryd.f35.body.getD .skip) [1, 1, 0, 0]), (cd (Tryd.f35.body.getD .skip) [1, 1, 0, 1]), (cd (Tryd.f35.body.getD .skip) [1, 1, 1, 0]), (cd (Tryd.f35.body.getD .skip) [1, 1, 1, 1])] (fun _ _ => False) (fun i => (fun _ _ => False)) (s35_R K)
theorem s35_p1_ok (K : Value → World → Prop) (s : Nat → Value) (w : World) (h : s35_p1 K (s 0) (s 1) w) : Tr (s35_p1_den K s w) :=
  tr_simple (P := Tryd.prog) (codes := [(cd (Tryd.f35.body.getD .skip) [0]), (cd (Tryd.f35.body.getD .skip) [1, 0]), (cd (Tryd.f35.body.getD .skip) [1, 1, 0, 0]), (cd (Tryd.f35.body.getD .skip) [1, 1, 0, 1]), (cd (Tryd.f35.body.getD .skip) [1, 1, 1, 0]), (cd (Tryd.f35.body.getD .skip) [1, 1, 1, 1])]) (N := (fun _ _ => False)) (N' := (fun _ _ => False)) (X := (fun i => (fun _ _ => False))) (X' := (fun i => (fun _ _ => False))) (R := s35_R K) (s := s) (w := w) (p := s35_p1 K (s 0) (s 1) w) (q := s35_p1_den K s w) tr_id (fun i => tr_id) (by kernel_rfl) (by kernel_rfl) @h
/-- the call, from the text -/
theorem c35 (t0 t1 : Value) {K : Value → World → Prop} {w : World} (h : s35_p1 K t0 t1 w) : cl Tryd.prog 35 #[t0, t1] K w :=
  calls_of_tr (c := (Tryd.f35.body.getD .skip)) (fn := Tryd.f35) (q := s35_p1_den K (st0 #[t0, t1]) w) Tryd.func35 (by kernel_rfl) (by kernel_rfl) (Nat.le_of_ble_eq_true (by kernel_rfl)) (by kernel_rfl) (by kernel_rfl) (s35_p1_ok K (st0 #[t0, t1]) w @h)

/-! ### function 36 : (*e2e.pool.Table).Owner -/
def s36_R (K : Value → World → Prop) (s : Nat → Value) (w : World) : Prop := retv Tryd.prog s Tryd.f36.results.toList (fun vs => K (pack vs) w) w
def s36_p1 (K : Value → World → Prop) (w : World) : Prop :=
  K (.tuple #[(.int .i64 (-1)), (.int .i64 8)]) w
def s36_p1_den (K : Value → World → Prop) : (Nat → Value) → World → Prop := denL Tryd.prog [(cd (Tryd.f36.body.getD .skip) [1, 1, 1, 0]), (cd (Tryd.f36.body.getD .skip) [1, 1, 1, 1])] (fun _ _ => False) (fun i => (fun _ _ => False)) (s36_R K)
theorem s36_p1_ok (K : Value → World → Prop) (s : Nat → Value) (w : World) (h : s36_p1 K w) : Tr (s36_p1_den K s w) :=
  tr_simple (P := Tryd.prog) (codes := [(cd (Tryd.f36.body.getD .skip) [1, 1, 1, 0]), (cd (Tryd.f36.body.getD .skip) [1, 1, 1, 1])]) (N := (fun _ _ => False)) (N' := (fun _ _ => False)) (X := (fun i => (fun _ _ => False))) (X' := (fun i => (fun _ _ => False))) (R := s36_R K) (s := s) (w := w) (p := s36_p1 K w) (q := s36_p1_den K s w) tr_id (fun i => tr_id) (by kernel_rfl) (by kernel_rfl) @h
def s36_p2 (K : Value → World → Prop) (B1 : List Value → World → Prop) (t0 t1 t6 t7 : Value) (w : World) : Prop :=
  boI .lss t6 t7 (fun t17 w =>
  ifb t17
  (nck t0 (fun t19 w =>
  fd 0 t19 (fun t20 w =>
  ld1 t20 (fun t21 w =>
  cl Tryd.prog 52 #[t21, (.int .u64 1)] (fun t22 w =>
  boI .add t6 t7 (fun t25 w =>
  boI .quo t25 (.int .i64 2) (fun t26 w =>
  nck t0 (fun t28 w =>
  fd 5 t28 (fun t29 w =>
  ld1 t29 (fun t30 w =>
  ixs 6 t30 t26 (fun t32 w =>
  nck t32 (fun t37 w =>
  fd 2 t37 (fun t38 w =>
  ld1 t38 (fun t39 w =>
  boI .lss t1 t39 (fun t40 w =>
  ifb t40
  (B1 [t0, t1, t6, t26] w)
  (nck t32 (fun t45 w =>
  fd 3 t45 (fun t46 w =>
  ld1 t46 (fun t47 w =>
  boI .geq t1 t47 (fun t48 w =>
  ifb t48
  (boI .add t26 (.int .i64 1) (fun t50 w =>
  B1 [t0, t1, t50, t7] w) w)
  (K (.tuple #[t26, (.int .i64 0)]) w)) w) w) w) w)) w) w) w) w) w) w) w) w) w) w) w) w) w) w)
  (s36_p1 K w)) w
def s36_p2_den (K : Value → World → Prop) (M1 : (Nat → Value) → World → Prop) : (Nat → Value) → World → Prop := denL Tryd.prog [(cd (Tryd.f36.body.getD .skip) [1, 1, 0, 0, 0, 0, 0]), (cd (Tryd.f36.body.getD .skip) [1, 1, 0, 0, 0, 0, 1]), (cd (Tryd.f36.body.getD .skip) [1, 1, 0, 0, 0, 1])] M1 (fun i => (bif Nat.beq i 0 then (s36_p1_den K) else (fun _ _ => False))) (s36_R K)
theorem s36_p2_ok (K : Value → World → Prop) (B1 : List Value → World → Prop) (s : Nat → Value) (w : World) (h : s36_p2 K B1 (s 0) (s 1) (s 6) (s 7) w) : Tr (s36_p2_den K (fun s w => B1 [s 0, s 1, s 6, s 7] w) s w) :=
  tr_simple (P := Tryd.prog) (codes := [(cd (Tryd.f36.body.getD .skip) [1, 1, 0, 0, 0, 0, 0]), (cd (Tryd.f36.body.getD .skip) [1, 1, 0, 0, 0, 0, 1]), (cd (Tryd.f36.body.getD .skip) [1, 1, 0, 0, 0, 1])]) (N := (fun s w => B1 [s 0, s 1, s 6, s 7] w)) (N' := (fun s w => B1 [s 0, s 1, s 6, s 7] w)) (X := (fun i => (bif Nat.beq i 0 then (fun s w => s36_p1 K w) else (fun _ _ => False)))) (X' := (fun i => (bif Nat.beq i 0 then (s36_p1_den K) else (fun _ _ => False)))) (R := s36_R K) (s := s) (w := w) (p := s36_p2 K B1 (s 0) (s 1) (s 6) (s 7) w) (q := s36_p2_den K (fun s w => B1 [s 0, s 1, s 6, s 7] w) s w) tr_id (fun i => (tr_bif (fun s w h => s36_p1_ok K s w @h) tr_id)) (by kernel_rfl) (by kernel_rfl) @h
def s36_p3_F (K : Value → World → Prop) (B1 : List Value → World → Prop) (l : List Value) (w : World) : Prop :=
  match l with
  | [t0, t1, t6, t7] => s36_p2 K B1 t0 t1 t6 t7 w
  | _ => False
theorem s36_p3_Fe {K : Value → World → Prop} {B1 : List Value → World → Prop} {t0 t1 t6 t7 : Value} {w : World} : s36_p3_F K B1 [t0, t1, t6, t7] w = s36_p2 K B1 t0 t1 t6 t7 w := by kernel_rfl
def s36_p3 (K : Value → World → Prop) (t0 t1 t6 t7 : Value) (w : World) : Prop :=
  LoopL (s36_p3_F K) [t0, t1, t6, t7] w
def s36_p3_den (K : Value → World → Prop) : (Nat → Value) → World → Prop := fun s w => LoopP (fun M1 s w => s36_p2_den K M1 s w) s w
theorem s36_p3_ok (K : Value → World → Prop) (s : Nat → Value) (w : World) (h : s36_p3 K (s 0) (s 1) (s 6) (s 7) w) : Tr (s36_p3_den K s w) :=
  tr_loop (G := fun N' s w => s36_p2_den K N' s w) (F := s36_p3_F K) (sel := fun s => [s 0, s 1, s 6, s 7]) (s := s) (w := w) (p := s36_p3 K (s 0) (s 1) (s 6) (s 7) w) (q := s36_p3_den K s w) (fun B s w h => s36_p2_ok K B s w @h) (by kernel_rfl) (by kernel_rfl) @h
def s36_p4_d (K : Value → World → Prop) (t0 t1 : Value) (w0 w : World) : Prop :=
  nck t0 (fun t11 _ =>
  fd 5 t11 (fun t12 _ =>
  ld1 t12 (fun t13 _ =>
  lnS t13 (fun t14 _ =>
  s36_p3 K t0 t1 (.int .i64 0) t14 w) w0) w0) w0) w0
def s36_p4 (K : Value → World → Prop) (t0 t1 : Value) (w : World) : Prop := s36_p4_d K t0 t1 (drw w) (drw w)
def s36_p4_den (K : Value → World → Prop) : (Nat → Value) → World → Prop := denL Tryd.prog [(cd (Tryd.f36.body.getD .skip) [1, 0])] (s36_p3_den K) (fun i => (fun _ _ => False)) (s36_R K)
theorem s36_p4_ok (K : Value → World → Prop) (s : Nat → Value) (w : World) (h : s36_p4 K (s 0) (s 1) w) : Tr (s36_p4_den K s w) :=
  tr_draw (P := Tryd.prog) (ops := (ro (cd (Tryd.f36.body.getD .skip) [1, 0]))) (ms := [0, 1, 3, 7, 15, 0, 63]) (cs := [0, 1, 2, 3, 4, 5, 6]) (N := (fun s w => s36_p3 K (s 0) (s 1) (s 6) (s 7) w)) (N' := (s36_p3_den K)) (s := s) (w := w) (p := s36_p4 K (s 0) (s 1) w) (q := s36_p4_den K s w) (by kernel_rfl) (by kernel_rfl) (fun s w h => s36_p3_ok K s w @h) (by kernel_rfl) (by kernel_rfl) @h
def s36_p5 (K : Value → World → Prop) (t0 t1 : Value) (w : World) : Prop :=
  s36_p4 K t0 t1 w
def s36_p5_den (K : Value → World → Prop) : (Nat → Value) → World → Prop := denL Tryd.prog [(cd (Tryd.f36.body.getD .skip) [0])] (s36_p4_den K) (fun i => (fun _ _ => False)) (s36_R K)
theorem s36_p5_ok (K : Value → World → Prop) (s : Nat → Value) (w : World) (h : s36_p5 K (s 0) (s 1) w) : Tr (s36_p5_den K s w) :=
  tr_simple (P := Tryd.prog) (codes := [(cd (Tryd.f36.body.getD .skip) [0])]) (N := (fun s w => s36_p4 K (s 0) (s 1) w)) (N' := (s36_p4_den K)) (X := (fun i => (fun _ _ => False))) (X' := (fun i => (fun _ _ => False))) (R := s36_R K) (s := s) (w := w) (p := s36_p5 K (s 0) (s 1) w) (q := s36_p5_den K s w) (fun s w h => s36_p4_ok K s w @h) (fun i => tr_id) (by kernel_rfl) (by kernel_rfl) @h
/-- the call, from the text -/
theorem c36 (t0 t1 : Value) {K : Value → World → Prop} {w : World} (h : s36_p5 K t0 t1 w) : cl Tryd.prog 36 #[t0, t1] K w :=
  calls_of_tr (c := (Tryd.f36.body.getD .skip)) (fn := Tryd.f36) (q := s36_p5_den K (st0 #[t0, t1]) w) Tryd.func36 (by kernel_rfl) (by kernel_rfl) (Nat.le_of_ble_eq_true (by kernel_rfl)) (by kernel_rfl) (by kernel_rfl) (s36_p5_ok K (st0 #[t0, t1]) w @h)

/-! ### function 37 : (*e2e.pool.Table).Stats -/
def s37_R (K : Value → World → Prop) (s : Nat → Value) (w : World) : Prop := retv Tryd.prog s Tryd.f37.results.toList (fun vs => K (pack vs) w) w
def s37_p1 (K : Value → World → Prop) (t4 t6 t9 t10 t11 : Value) (w : World) : Prop :=
  nck t6 (fun t58 w =>
  fd 5 t58 (fun t59 w =>
  ld1 t59 (fun t60 w =>
  cvi .u64 t60 (fun t61 w =>
  boI .gtr t10 t61 (fun t64 w =>
  gd t64 false (fun K w => K t9 w) (fun t66 w =>
  gd t64 false (fun K w => K t10 w) (fun t67 w =>
  gd t64 false (boI .gtr t66 t67) (fun t68 w =>
  pk t64 (.bool true) t68 (fun t69 w =>
  ifb t69
  (bdq [(.int .u32 0), (.int .u32 0), (.int .u32 0), (.int .u64 0)] [] (fun t70 w =>
  stn 4 t4 t70 (fun w =>
  ldn 4 t4 (fun r0 _ =>
  K (.tuple #[r0, (.int .i64 11)]) w) w) w) w)
  (cvi .u32 t9 (fun t72 w =>
  nck t6 (fun t74 w =>
  fd 5 t74 (fun t75 w =>
  ld1 t75 (fun t76 w =>
  cvi .u32 t9 (fun t78 w =>
  boI .sub t76 t78 (fun t79 w =>
  cvi .u32 t10 (fun t81 w =>
  bdq [(.int .u32 0), (.int .u32 0), (.int .u32 0), (.int .u64 0)] [(some (0, 1), t72), (some (1, 1), t79), (some (2, 1), t81), (some (3, 1), t11)] (fun t83 w =>
  stn 4 t4 t83 (fun w =>
  ldn 4 t4 (fun r0 _ =>
  K (.tuple #[r0, (.int .i64 0)]) w) w) w) w) w) w) w) w) w) w) w)) w) w) w) w) w) w) w) w) w
def s37_p1_den (K : Value → World → Prop) : (Nat → Value) → World → Prop := denL Tryd.prog [(cd (Tryd.f37.body.getD .skip) [1, 1, 1, 1, 1, 1, 1, 1, 1, 0, 0]), (cd (Tryd.f37.body.getD .skip) [1, 1, 1, 1, 1, 1, 1, 1, 1, 0, 1, 0]), (cd (Tryd.f37.body.getD .skip) [1, 1, 1, 1, 1, 1, 1, 1, 1, 0, 1, 1]), (cd (Tryd.f37.body.getD .skip) [1, 1, 1, 1, 1, 1, 1, 1, 1, 1, 0]), (cd (Tryd.f37.body.getD .skip) [1, 1, 1, 1, 1, 1, 1, 1, 1, 1, 1])] (fun _ _ => False) (fun i => (fun _ _ => False)) (s37_R K)
theorem s37_p1_ok (K : Value → World → Prop) (s : Nat → Value) (w : World) (h : s37_p1 K (s 4) (s 6) (s 9) (s 10) (s 11) w) : Tr (s37_p1_den K s w) :=
  tr_simple (P := Tryd.prog) (codes := [(cd (Tryd.f37.body.getD .skip) [1, 1, 1, 1, 1, 1, 1, 1, 1, 0, 0]), (cd (Tryd.f37.body.getD .skip) [1, 1, 1, 1, 1, 1, 1, 1, 1, 0, 1, 0]), (cd (Tryd.f37.body.getD .skip) [1, 1, 1, 1, 1, 1, 1, 1, 1, 0, 1, 1]), (cd (Tryd.f37.body.getD .skip) [1, 1, 1, 1, 1, 1, 1, 1, 1, 1, 0]), (cd (Tryd.f37.body.getD .skip) [1, 1, 1, 1, 1, 1, 1, 1, 1, 1, 1])]) (N := (fun _ _ => False)) (N' := (fun _ _ => False)) (X := (fun i => (fun _ _ => False))) (X' := (fun i => (fun _ _ => False))) (R := s37_R K) (s := s) (w := w) (p := s37_p1 K (s 4) (s 6) (s 9) (s 10) (s 11) w) (q := s37_p1_den K s w) tr_id (fun i => tr_id) (by kernel_rfl) (by kernel_rfl) @h
def s37_p2 (K : Value → World → Prop) (t4 t5 : Value) (w : World) : Prop :=
  ldn 4 t4 (fun r0 _ =>
  K (.tuple #[r0, t5]) w) w
def s37_p2_den (K : Value → World → Prop) : (Nat → Value) → World → Prop := denL Tryd.prog [(cd (Tryd.f37.body.getD .skip) [1, 1, 1, 1, 1, 1, 1, 1, 0, 1, 0, 1])] (fun _ _ => False) (fun i => (fun _ _ => False)) (s37_R K)
theorem s37_p2_ok (K : Value → World → Prop) (s : Nat → Value) (w : World) (h : s37_p2 K (s 4) (s 5) w) : Tr (s37_p2_den K s w) :=
  tr_simple (P := Tryd.prog) (codes := [(cd (Tryd.f37.body.getD .skip) [1, 1, 1, 1, 1, 1, 1, 1, 0, 1, 0, 1])]) (N := (fun _ _ => False)) (N' := (fun _ _ => False)) (X := (fun i => (fun _ _ => False))) (X' := (fun i => (fun _ _ => False))) (R := s37_R K) (s := s) (w := w) (p := s37_p2 K (s 4) (s 5) w) (q := s37_p2_den K s w) tr_id (fun i => tr_id) (by kernel_rfl) (by kernel_rfl) @h
def s37_p3_d (K : Value → World → Prop) (t4 t8 : Value) (w0 w : World) : Prop :=
  fd 1 t8 (fun t55 _ =>
  (bdq [(.int .u32 0), (.int .u32 0), (.int .u32 0), (.int .u64 0)] [] (fun t54 w =>
  (ld1 t55 (fun t56 w =>
  stn 4 t4 t54 (fun w =>
  s37_p2 K t4 t56 w) w) w) ∧
  (stn 4 t4 t54 (fun w =>
  ld1 t55 (fun t56_2 w =>
  s37_p2 K t4 t56_2 w) w) w)) w) ∧
  (ld1 t55 (fun t56_3 w =>
  bdq [(.int .u32 0), (.int .u32 0), (.int .u32 0), (.int .u64 0)] [] (fun t54_2 w =>
  stn 4 t4 t54_2 (fun w =>
  s37_p2 K t4 t56_3 w) w) w) w)) w0
def s37_p3 (K : Value → World → Prop) (t4 t8 : Value) (w : World) : Prop := s37_p3_d K t4 t8 (drw w) (drw w)
def s37_p3_den (K : Value → World → Prop) : (Nat → Value) → World → Prop := denL Tryd.prog [(cd (Tryd.f37.body.getD .skip) [1, 1, 1, 1, 1, 1, 1, 1, 0, 1, 0, 0])] (s37_p2_den K) (fun i => (fun _ _ => False)) (s37_R K)
theorem s37_p3_ok (K : Value → World → Prop) (s : Nat → Value) (w : World) (h : s37_p3 K (s 4) (s 8) w) : Tr (s37_p3_den K s w) :=
  tr_draw (P := Tryd.prog) (ops := (ro (cd (Tryd.f37.body.getD .skip) [1, 1, 1, 1, 1, 1, 1, 1, 0, 1, 0, 0]))) (ms := [0, 0, 2, 1, 15]) (cs := [1]) (N := (fun s w => s37_p2 K (s 4) (s 5) w)) (N' := (s37_p2_den K)) (s := s) (w := w) (p := s37_p3 K (s 4) (s 8) w) (q := s37_p3_den K s w) (by kernel_rfl) (by kernel_rfl) (fun s w h => s37_p2_ok K s w @h) (by kernel_rfl) (by kernel_rfl) @h
def s37_p4 (K : Value → World → Prop) (t4 t6 t8 t9 t10 t11 t53 : Value) (w : World) : Prop :=
  ifb t53
  (s37_p3 K t4 t8 w)
  (s37_p1 K t4 t6 t9 t10 t11 w)
def s37_p4_den (K : Value → World → Prop) : (Nat → Value) → World → Prop := fun s w => ifb (ev s (.tmp 53)) ((s37_p3_den K) s w) ((s37_p1_den K) s w)
theorem s37_p4_ok (K : Value → World → Prop) (s : Nat → Value) (w : World) (h : s37_p4 K (s 4) (s 6) (s 8) (s 9) (s 10) (s 11) (s 53) w) : Tr (s37_p4_den K s w) :=
  tr_cond (v := ev s (.tmp 53)) (a := (fun s w => s37_p3 K (s 4) (s 8) w) s w) (a' := (s37_p3_den K) s w) (b := (fun s w => s37_p1 K (s 4) (s 6) (s 9) (s 10) (s 11) w) s w) (b' := (s37_p1_den K) s w) (p := s37_p4 K (s 4) (s 6) (s 8) (s 9) (s 10) (s 11) (s 53) w) (q := s37_p4_den K s w) ((fun s w h => s37_p3_ok K s w @h) s w) ((fun s w h => s37_p1_ok K s w @h) s w) (by kernel_rfl) (by kernel_rfl) @h
def s37_p5 (K : Value → World → Prop) (t0 t1 : Value) (w : World) : Prop :=
  nw 38 #[(.int .u32 0), (.int .u32 0), (.int .u32 0), (.int .u64 0)] (fun t4 w =>
  cl Tryd.prog 46 #[t0, t1] (fun t16 w =>
  exq t16 0 (fun t17 w =>
  exq t16 1 (fun t18 w =>
  boI .neq t18 (.int .i64 0) (fun t20 w =>
  ifb t20
  (bdq [(.int .u32 0), (.int .u32 0), (.int .u32 0), (.int .u64 0)] [] (fun t21 w =>
  stn 4 t4 t21 (fun w =>
  ldn 4 t4 (fun r0 _ =>
  K (.tuple #[r0, t18]) w) w) w) w)
  (nck t0 (fun t24 w =>
  fd 0 t24 (fun t25 w =>
  ld1 t25 (fun t26 w =>
  bdq [(.pointer none), (.int .i64 0)] [(some (0, 1), t26)] (fun t27 w =>
  nw 121 #[(.pointer none), (.int .i64 0)] (fun t8 w =>
  stn 2 t8 t27 (fun w =>
  cl Tryd.prog 53 #[t8, t17] (fun t29 w =>
  un .not t29 (fun t30 w =>
  ifb t30
  (bdq [(.int .u32 0), (.int .u32 0), (.int .u32 0), (.int .u64 0)] [] (fun t31 w =>
  cl Tryd.prog 54 #[t8, (.int .i64 11)] (fun t32 w =>
  stn 4 t4 t31 (fun w =>
  ldn 4 t4 (fun r0 _ =>
  K (.tuple #[r0, t32]) w) w) w) w) w)
  (nck t17 (fun t34 w =>
  fd 0 t34 (fun t35 w =>
  ld1 t35 (fun t36 w =>
  boI .add t36 (.int .u32 2) (fun t37 w =>
  cl Tryd.prog 55 #[t8, t37] (fun t38 w =>
  nck t17 (fun t40 w =>
  fd 0 t40 (fun t41 w =>
  ld1 t41 (fun t42 w =>
  boI .add t42 (.int .u32 3) (fun t43 w =>
  cl Tryd.prog 55 #[t8, t43] (fun t44 w =>
  nck t17 (fun t46 w =>
  fd 0 t46 (fun t47 w =>
  ld1 t47 (fun t48 w =>
  boI .add t48 (.int .u32 4) (fun t49 w =>
  cl Tryd.prog 55 #[t8, t49] (fun t50 w =>
  fd 1 t8 (fun t51 w =>
  ld1 t51 (fun t52 w =>
  boI .neq t52 (.int .i64 0) (fun t53 w =>
  s37_p4 K t4 t17 t8 t38 t44 t50 t53 w) w) w) w) w) w) w) w) w) w) w) w) w) w) w) w) w) w) w)) w) w) w) w) w) w) w) w)) w) w) w) w) w
def s37_p5_den (K : Value → World → Prop) : (Nat → Value) → World → Prop := denL Tryd.prog [(cd (Tryd.f37.body.getD .skip) [0]), (cd (Tryd.f37.body.getD .skip) [1, 0]), (cd (Tryd.f37.body.getD .skip) [1, 1, 0, 0]), (cd (Tryd.f37.body.getD .skip) [1, 1, 0, 1]), (cd (Tryd.f37.body.getD .skip) [1, 1, 1, 0]), (cd (Tryd.f37.body.getD .skip) [1, 1, 1, 1, 0, 0]), (cd (Tryd.f37.body.getD .skip) [1, 1, 1, 1, 0, 1]), (cd (Tryd.f37.body.getD .skip) [1, 1, 1, 1, 1, 0]), (cd (Tryd.f37.body.getD .skip) [1, 1, 1, 1, 1, 1, 0]), (cd (Tryd.f37.body.getD .skip) [1, 1, 1, 1, 1, 1, 1, 0]), (cd (Tryd.f37.body.getD .skip) [1, 1, 1, 1, 1, 1, 1, 1, 0, 0])] (s37_p4_den K) (fun i => (fun _ _ => False)) (s37_R K)
theorem s37_p5_ok (K : Value → World → Prop) (s : Nat → Value) (w : World) (h : s37_p5 K (s 0) (s 1) w) : Tr (s37_p5_den K s w) :=
  tr_simple (P := Tryd.prog) (codes := [(cd (Tryd.f37.body.getD .skip) [0]), (cd (Tryd.f37.body.getD .skip) [1, 0]), (cd (Tryd.f37.body.getD .skip) [1, 1, 0, 0]), (cd (Tryd.f37.body.getD .skip) [1, 1, 0, 1]), (cd (Tryd.f37.body.getD .skip) [1, 1, 1, 0]), (cd (Tryd.f37.body.getD .skip) [1, 1, 1, 1, 0, 0]), (cd (Tryd.f37.body.getD .skip) [1, 1, 1, 1, 0, 1]), (cd (Tryd.f37.body.getD .skip) [1, 1, 1, 1, 1, 0]), (cd (Tryd.f37.body.getD .skip) [1, 1, 1, 1, 1, 1, 0]), (cd (Tryd.f37.body.getD .skip) [1, 1, 1, 1, 1, 1, 1, 0]), (cd (Tryd.f37.body.getD .skip) [1, 1, 1, 1, 1, 1, 1, 1, 0, 0])]) (N := (fun s w => s37_p4 K (s 4) (s 6) (s 8) (s 9) (s 10) (s 11) (s 53) w)) (N' := (s37_p4_den K)) (X := (fun i => (fun _ _ => False))) (X' := (fun i => (fun _ _ => False))) (R := s37_R K) (s := s) (w := w) (p := s37_p5 K (s 0) (s 1) w) (q := s37_p5_den K s w) (fun s w h => s37_p4_ok K s w @h) (fun i => tr_id) (by kernel_rfl) (by kernel_rfl) @h
/-- the call, from the text -/
theorem c37 (t0 t1 : Value) {K : Value → World → Prop} {w : World} (h : s37_p5 K t0 t1 w) : cl Tryd.prog 37 #[t0, t1] K w :=
  calls_of_tr (c := (Tryd.f37.body.getD .skip)) (fn := Tryd.f37) (q := s37_p5_den K (st0 #[t0, t1]) w) Tryd.func37 (by kernel_rfl) (by kernel_rfl) (Nat.le_of_ble_eq_true (by kernel_rfl)) (by kernel_rfl) (by kernel_rfl) (s37_p5_ok K (st0 #[t0, t1]) w @h)

/-! ### function 38 : (*e2e.poollaw.world).read -/
def s38_R (K : Value → World → Prop) (s : Nat → Value) (w : World) : Prop := retv Tryd.prog s Tryd.f38.results.toList (fun vs => K (pack vs) w) w
def s38_p1 (K : Value → World → Prop) (t9 : Value) (w : World) : Prop :=
  K t9 w
def s38_p1_den (K : Value → World → Prop) : (Nat → Value) → World → Prop := denL Tryd.prog [(cd (Tryd.f38.body.getD .skip) [1, 1, 1, 1, 0]), (cd (Tryd.f38.body.getD .skip) [1, 1, 1, 1, 1])] (fun _ _ => False) (fun i => (fun _ _ => False)) (s38_R K)
theorem s38_p1_ok (K : Value → World → Prop) (s : Nat → Value) (w : World) (h : s38_p1 K (s 9) w) : Tr (s38_p1_den K s w) :=
  tr_simple (P := Tryd.prog) (codes := [(cd (Tryd.f38.body.getD .skip) [1, 1, 1, 1, 0]), (cd (Tryd.f38.body.getD .skip) [1, 1, 1, 1, 1])]) (N := (fun _ _ => False)) (N' := (fun _ _ => False)) (X := (fun i => (fun _ _ => False))) (X' := (fun i => (fun _ _ => False))) (R := s38_R K) (s := s) (w := w) (p := s38_p1 K (s 9) w) (q := s38_p1_den K s w) tr_id (fun i => tr_id) (by kernel_rfl) (by kernel_rfl) @h
def s38_p2 (K : Value → World → Prop) (B1 : List Value → World → Prop) (t0 t2 t9 t24 t25 : Value) (w : World) : Prop :=
  boI .lss t25 t24 (fun t26 w =>
  ifb t26
  (nck t0 (fun t32 w =>
  fd 0 t32 (fun t33 w =>
  ld1 t33 (fun t34 w =>
  cvi .u32 t25 (fun t37 w =>
  boI .add t2 t37 (fun t38 w =>
  cl Tryd.prog 23 #[t34, t38] (fun t39 w =>
  exq t39 0 (fun t40 w =>
  exq t39 1 (fun t41 w =>
  ixs 1 t9 t25 (fun t42 w =>
  st1 t42 t40 (fun w =>
  boI .add t25 (.int .i64 1) (fun t43 w =>
  B1 [t0, t2, t9, t24, t43] w) w) w) w) w) w) w) w) w) w) w) w)
  (s38_p1 K t9 w)) w
def s38_p2_den (K : Value → World → Prop) (M1 : (Nat → Value) → World → Prop) : (Nat → Value) → World → Prop := denL Tryd.prog [(cd (Tryd.f38.body.getD .skip) [1, 1, 1, 0, 1, 0, 0, 0]), (cd (Tryd.f38.body.getD .skip) [1, 1, 1, 0, 1, 0, 0, 1, 0]), (cd (Tryd.f38.body.getD .skip) [1, 1, 1, 0, 1, 0, 0, 1, 1, 0]), (cd (Tryd.f38.body.getD .skip) [1, 1, 1, 0, 1, 0, 0, 1, 1, 1])] M1 (fun i => (bif Nat.beq i 0 then (s38_p1_den K) else (fun _ _ => False))) (s38_R K)
theorem s38_p2_ok (K : Value → World → Prop) (B1 : List Value → World → Prop) (s : Nat → Value) (w : World) (h : s38_p2 K B1 (s 0) (s 2) (s 9) (s 24) (s 25) w) : Tr (s38_p2_den K (fun s w => B1 [s 0, s 2, s 9, s 24, s 25] w) s w) :=
  tr_simple (P := Tryd.prog) (codes := [(cd (Tryd.f38.body.getD .skip) [1, 1, 1, 0, 1, 0, 0, 0]), (cd (Tryd.f38.body.getD .skip) [1, 1, 1, 0, 1, 0, 0, 1, 0]), (cd (Tryd.f38.body.getD .skip) [1, 1, 1, 0, 1, 0, 0, 1, 1, 0]), (cd (Tryd.f38.body.getD .skip) [1, 1, 1, 0, 1, 0, 0, 1, 1, 1])]) (N := (fun s w => B1 [s 0, s 2, s 9, s 24, s 25] w)) (N' := (fun s w => B1 [s 0, s 2, s 9, s 24, s 25] w)) (X := (fun i => (bif Nat.beq i 0 then (fun s w => s38_p1 K (s 9) w) else (fun _ _ => False)))) (X' := (fun i => (bif Nat.beq i 0 then (s38_p1_den K) else (fun _ _ => False)))) (R := s38_R K) (s := s) (w := w) (p := s38_p2 K B1 (s 0) (s 2) (s 9) (s 24) (s 25) w) (q := s38_p2_den K (fun s w => B1 [s 0, s 2, s 9, s 24, s 25] w) s w) tr_id (fun i => (tr_bif (fun s w h => s38_p1_ok K s w @h) tr_id)) (by kernel_rfl) (by kernel_rfl) @h
def s38_p3_F (K : Value → World → Prop) (B1 : List Value → World → Prop) (l : List Value) (w : World) : Prop :=
  match l with
  | [t0, t2, t9, t24, t25] => s38_p2 K B1 t0 t2 t9 t24 t25 w
  | _ => False
theorem s38_p3_Fe {K : Value → World → Prop} {B1 : List Value → World → Prop} {t0 t2 t9 t24 t25 : Value} {w : World} : s38_p3_F K B1 [t0, t2, t9, t24, t25] w = s38_p2 K B1 t0 t2 t9 t24 t25 w := by kernel_rfl
def s38_p3 (K : Value → World → Prop) (t0 t2 t9 t24 t25 : Value) (w : World) : Prop :=
  LoopL (s38_p3_F K) [t0, t2, t9, t24, t25] w
def s38_p3_den (K : Value → World → Prop) : (Nat → Value) → World → Prop := fun s w => LoopP (fun M1 s w => s38_p2_den K M1 s w) s w
theorem s38_p3_ok (K : Value → World → Prop) (s : Nat → Value) (w : World) (h : s38_p3 K (s 0) (s 2) (s 9) (s 24) (s 25) w) : Tr (s38_p3_den K s w) :=
  tr_loop (G := fun N' s w => s38_p2_den K N' s w) (F := s38_p3_F K) (sel := fun s => [s 0, s 2, s 9, s 24, s 25]) (s := s) (w := w) (p := s38_p3 K (s 0) (s 2) (s 9) (s 24) (s 25) w) (q := s38_p3_den K s w) (fun B s w h => s38_p2_ok K B s w @h) (by kernel_rfl) (by kernel_rfl) @h
def s38_p4 (K : Value → World → Prop) (t0 t1 t2 : Value) (w : World) : Prop :=
  nck t0 (fun t13 w =>
  fd 1 t13 (fun t14 w =>
  ld1 t14 (fun t15 w =>
  cl Tryd.prog 22 #[t15, t1] (fun t17 w =>
  exq t17 0 (fun t18 w =>
  exq t17 1 (fun t19 w =>
  nw 68 #[(.int .u32 0), (.int .u32 0), (.int .u32 0)] (fun t7 w =>
  stn 3 t7 t18 (fun w =>
  fd 1 t7 (fun t20 w =>
  ld1 t20 (fun t21 w =>
  mks 71 [(.int .u64 0)] 8 t21 t21 (fun t22 w =>
  lnS t22 (fun t24 w =>
  s38_p3 K t0 t2 t22 t24 (.int .i64 0) w) w) w) w) w) w) w) w) w) w) w) w) w
def s38_p4_den (K : Value → World → Prop) : (Nat → Value) → World → Prop := denL Tryd.prog [(cd (Tryd.f38.body.getD .skip) [0]), (cd (Tryd.f38.body.getD .skip) [1, 0]), (cd (Tryd.f38.body.getD .skip) [1, 1, 0]), (cd (Tryd.f38.body.getD .skip) [1, 1, 1, 0, 0])] (s38_p3_den K) (fun i => (fun _ _ => False)) (s38_R K)
theorem s38_p4_ok (K : Value → World → Prop) (s : Nat → Value) (w : World) (h : s38_p4 K (s 0) (s 1) (s 2) w) : Tr (s38_p4_den K s w) :=
  tr_simple (P := Tryd.prog) (codes := [(cd (Tryd.f38.body.getD .skip) [0]), (cd (Tryd.f38.body.getD .skip) [1, 0]), (cd (Tryd.f38.body.getD .skip) [1, 1, 0]), (cd (Tryd.f38.body.getD .skip) [1, 1, 1, 0, 0])]) (N := (fun s w => s38_p3 K (s 0) (s 2) (s 9) (s 24) (s 25) w)) (N' := (s38_p3_den K)) (X := (fun i => (fun _ _ => False))) (X' := (fun i => (fun _ _ => False))) (R := s38_R K) (s := s) (w := w) (p := s38_p4 K (s 0) (s 1) (s 2) w) (q := s38_p4_den K s w) (fun s w h => s38_p3_ok K s w @h) (fun i => tr_id) (by kernel_rfl) (by kernel_rfl) @h
/-- the call, from the text -/
theorem c38 (t0 t1 t2 : Value) {K : Value → World → Prop} {w : World} (h : s38_p4 K t0 t1 t2 w) : cl Tryd.prog 38 #[t0, t1, t2] K w :=
  calls_of_tr (c := (Tryd.f38.body.getD .skip)) (fn := Tryd.f38) (q := s38_p4_den K (st0 #[t0, t1, t2]) w) Tryd.func38 (by kernel_rfl) (by kernel_rfl) (Nat.le_of_ble_eq_true (by kernel_rfl)) (by kernel_rfl) (by kernel_rfl) (s38_p4_ok K (st0 #[t0, t1, t2]) w @h)

/-! ### function 39 : (*e2e.poollaw.world).forget -/
def s39_R (K : Value → World → Prop) (s : Nat → Value) (w : World) : Prop := retv Tryd.prog s Tryd.f39.results.toList (fun vs => K (pack vs) w) w
def s39_p1 (K : Value → World → Prop) (B1 : List Value → World → Prop) (t0 t1 t9 t10 : Value) (w : World) : Prop :=
  boI .add t10 (.int .i64 1) (fun t40 w =>
  B1 [t0, t1, t9, t40] w) w
def s39_p1_den (K : Value → World → Prop) (M1 : (Nat → Value) → World → Prop) : (Nat → Value) → World → Prop := denL Tryd.prog [(cd (Tryd.f39.body.getD .skip) [1, 0, 0, 1, 1, 1])] M1 (fun i => (bif Nat.beq i 0 then (s39_R K) else (fun _ _ => False))) (s39_R K)
theorem s39_p1_ok (K : Value → World → Prop) (B1 : List Value → World → Prop) (s : Nat → Value) (w : World) (h : s39_p1 K B1 (s 0) (s 1) (s 9) (s 10) w) : Tr (s39_p1_den K (fun s w => B1 [s 0, s 1, s 9, s 10] w) s w) :=
  tr_simple (P := Tryd.prog) (codes := [(cd (Tryd.f39.body.getD .skip) [1, 0, 0, 1, 1, 1])]) (N := (fun s w => B1 [s 0, s 1, s 9, s 10] w)) (N' := (fun s w => B1 [s 0, s 1, s 9, s 10] w)) (X := (fun i => (bif Nat.beq i 0 then (s39_R K) else (fun _ _ => False)))) (X' := (fun i => (bif Nat.beq i 0 then (s39_R K) else (fun _ _ => False)))) (R := s39_R K) (s := s) (w := w) (p := s39_p1 K B1 (s 0) (s 1) (s 9) (s 10) w) (q := s39_p1_den K (fun s w => B1 [s 0, s 1, s 9, s 10] w) s w) tr_id (fun i => (tr_bif tr_id tr_id)) (by kernel_rfl) (by kernel_rfl) @h
def s39_p2 (K : Value → World → Prop) (B1 : List Value → World → Prop) (w : World) : Prop :=
  K (.tuple #[]) w
def s39_p2_den (K : Value → World → Prop) (M1 : (Nat → Value) → World → Prop) : (Nat → Value) → World → Prop := denL Tryd.prog [(cd (Tryd.f39.body.getD .skip) [1, 0, 0, 1, 1, 0, 0, 1, 1, 0, 1])] (fun _ _ => False) (fun i => (bif Nat.beq i 1 then (s39_p1_den K M1) else (bif Nat.beq i 0 then (s39_R K) else (fun _ _ => False)))) (s39_R K)
theorem s39_p2_ok (K : Value → World → Prop) (B1 : List Value → World → Prop) (s : Nat → Value) (w : World) (h : s39_p2 K B1 w) : Tr (s39_p2_den K (fun s w => B1 [s 0, s 1, s 9, s 10] w) s w) :=
  tr_simple (P := Tryd.prog) (codes := [(cd (Tryd.f39.body.getD .skip) [1, 0, 0, 1, 1, 0, 0, 1, 1, 0, 1])]) (N := (fun _ _ => False)) (N' := (fun _ _ => False)) (X := (fun i => (bif Nat.beq i 1 then (fun s w => s39_p1 K B1 (s 0) (s 1) (s 9) (s 10) w) else (bif Nat.beq i 0 then (s39_R K) else (fun _ _ => False))))) (X' := (fun i => (bif Nat.beq i 1 then (s39_p1_den K (fun s w => B1 [s 0, s 1, s 9, s 10] w)) else (bif Nat.beq i 0 then (s39_R K) else (fun _ _ => False))))) (R := s39_R K) (s := s) (w := w) (p := s39_p2 K B1 w) (q := s39_p2_den K (fun s w => B1 [s 0, s 1, s 9, s 10] w) s w) tr_id (fun i => (tr_bif (fun s w h => s39_p1_ok K B1 s w @h) (tr_bif tr_id tr_id))) (by kernel_rfl) (by kernel_rfl) @h
def s39_p3_d (K : Value → World → Prop) (B1 : List Value → World → Prop) (t0 t4 : Value) (w0 w : World) : Prop :=
  nck t0 (fun t25 _ =>
  fd 3 t25 (fun t26 _ =>
  ld1 t26 (fun t27 _ =>
  sls 3 t27 none (some t4) (fun t29 _ =>
  nck t0 (fun t31 _ =>
  fd 3 t31 (fun t32 _ =>
  ld1 t32 (fun t33 _ =>
  boI .add t4 (.int .i64 1) (fun t35 _ =>
  sls 3 t33 (some t35) none (fun t36 _ =>
  nck t0 (fun t38 _ =>
  fd 3 t38 (fun t39 _ =>
  apq 66 [(.int .i64 0), (.int .u32 0), (.slice none 0 0)] 40 t29 t36 (fun t37 w =>
  st1 t39 t37 (fun w =>
  s39_p2 K B1 w) w) w) w0) w0) w0) w0) w0) w0) w0) w0) w0) w0) w0
def s39_p3 (K : Value → World → Prop) (B1 : List Value → World → Prop) (t0 t4 : Value) (w : World) : Prop := s39_p3_d K B1 t0 t4 (drw w) (drw w)
def s39_p3_den (K : Value → World → Prop) (M1 : (Nat → Value) → World → Prop) : (Nat → Value) → World → Prop := denL Tryd.prog [(cd (Tryd.f39.body.getD .skip) [1, 0, 0, 1, 1, 0, 0, 1, 1, 0, 0])] (s39_p2_den K M1) (fun i => (bif Nat.beq i 1 then (s39_p1_den K M1) else (bif Nat.beq i 0 then (s39_R K) else (fun _ _ => False)))) (s39_R K)
theorem s39_p3_ok (K : Value → World → Prop) (B1 : List Value → World → Prop) (s : Nat → Value) (w : World) (h : s39_p3 K B1 (s 0) (s 4) w) : Tr (s39_p3_den K (fun s w => B1 [s 0, s 1, s 9, s 10] w) s w) :=
  tr_draw (P := Tryd.prog) (ops := (ro (cd (Tryd.f39.body.getD .skip) [1, 0, 0, 1, 1, 0, 0, 1, 1, 0, 0]))) (ms := [0, 0, 2, 6, 14, 0, 62, 0, 128, 384, 896, 0, 2048, 8064, 16382, 32767, 65535, 131071]) (cs := [0, 1, 2, 3, 4, 5, 6, 7, 8, 9, 10, 11, 12, 13, 15, 16]) (N := (fun s w => s39_p2 K B1 w)) (N' := (s39_p2_den K (fun s w => B1 [s 0, s 1, s 9, s 10] w))) (s := s) (w := w) (p := s39_p3 K B1 (s 0) (s 4) w) (q := s39_p3_den K (fun s w => B1 [s 0, s 1, s 9, s 10] w) s w) (by kernel_rfl) (by kernel_rfl) (fun s w h => s39_p2_ok K B1 s w @h) (by kernel_rfl) (by kernel_rfl) @h
def s39_p4 (K : Value → World → Prop) (B1 : List Value → World → Prop) (t0 t1 t4 t9 t10 t22 : Value) (w : World) : Prop :=
  ifb t22
  (s39_p3 K B1 t0 t4 w)
  (s39_p1 K B1 t0 t1 t9 t10 w)
def s39_p4_den (K : Value → World → Prop) (M1 : (Nat → Value) → World → Prop) : (Nat → Value) → World → Prop := fun s w => ifb (ev s (.tmp 22)) ((s39_p3_den K M1) s w) ((s39_p1_den K M1) s w)
theorem s39_p4_ok (K : Value → World → Prop) (B1 : List Value → World → Prop) (s : Nat → Value) (w : World) (h : s39_p4 K B1 (s 0) (s 1) (s 4) (s 9) (s 10) (s 22) w) : Tr (s39_p4_den K (fun s w => B1 [s 0, s 1, s 9, s 10] w) s w) :=
  tr_cond (v := ev s (.tmp 22)) (a := (fun s w => s39_p3 K B1 (s 0) (s 4) w) s w) (a' := (s39_p3_den K (fun s w => B1 [s 0, s 1, s 9, s 10] w)) s w) (b := (fun s w => s39_p1 K B1 (s 0) (s 1) (s 9) (s 10) w) s w) (b' := (s39_p1_den K (fun s w => B1 [s 0, s 1, s 9, s 10] w)) s w) (p := s39_p4 K B1 (s 0) (s 1) (s 4) (s 9) (s 10) (s 22) w) (q := s39_p4_den K (fun s w => B1 [s 0, s 1, s 9, s 10] w) s w) ((fun s w h => s39_p3_ok K B1 s w @h) s w) ((fun s w h => s39_p1_ok K B1 s w @h) s w) (by kernel_rfl) (by kernel_rfl) @h
def s39_p5 (K : Value → World → Prop) (B1 : List Value → World → Prop) (t0 t1 t9 t10 : Value) (w : World) : Prop :=
  nck t0 (fun t14 w =>
  fd 3 t14 (fun t15 w =>
  ld1 t15 (fun t16 w =>
  ixs 3 t16 t10 (fun t18 w =>
  fd 1 t18 (fun t19 w =>
  ld1 t19 (fun t20 w =>
  boI .eql t20 t1 (fun t22 w =>
  s39_p4 K B1 t0 t1 t10 t9 t10 t22 w) w) w) w) w) w) w) w
def s39_p5_den (K : Value → World → Prop) (M1 : (Nat → Value) → World → Prop) : (Nat → Value) → World → Prop := denL Tryd.prog [(cd (Tryd.f39.body.getD .skip) [1, 0, 0, 1, 1, 0, 0, 0]), (cd (Tryd.f39.body.getD .skip) [1, 0, 0, 1, 1, 0, 0, 1, 0])] (s39_p4_den K M1) (fun i => (bif Nat.beq i 1 then (s39_p1_den K M1) else (bif Nat.beq i 0 then (s39_R K) else (fun _ _ => False)))) (s39_R K)
theorem s39_p5_ok (K : Value → World → Prop) (B1 : List Value → World → Prop) (s : Nat → Value) (w : World) (h : s39_p5 K B1 (s 0) (s 1) (s 9) (s 10) w) : Tr (s39_p5_den K (fun s w => B1 [s 0, s 1, s 9, s 10] w) s w) :=
  tr_simple (P := Tryd.prog) (codes := [(cd (Tryd.f39.body.getD .skip) [1, 0, 0, 1, 1, 0, 0, 0]), (cd (Tryd.f39.body.getD .skip) [1, 0, 0, 1, 1, 0, 0, 1, 0])]) (N := (fun s w => s39_p4 K B1 (s 0) (s 1) (s 4) (s 9) (s 10) (s 22) w)) (N' := (s39_p4_den K (fun s w => B1 [s 0, s 1, s 9, s 10] w))) (X := (fun i => (bif Nat.beq i 1 then (fun s w => s39_p1 K B1 (s 0) (s 1) (s 9) (s 10) w) else (bif Nat.beq i 0 then (s39_R K) else (fun _ _ => False))))) (X' := (fun i => (bif Nat.beq i 1 then (s39_p1_den K (fun s w => B1 [s 0, s 1, s 9, s 10] w)) else (bif Nat.beq i 0 then (s39_R K) else (fun _ _ => False))))) (R := s39_R K) (s := s) (w := w) (p := s39_p5 K B1 (s 0) (s 1) (s 9) (s 10) w) (q := s39_p5_den K (fun s w => B1 [s 0, s 1, s 9, s 10] w) s w) (fun s w h => s39_p4_ok K B1 s w @h) (fun i => (tr_bif (fun s w h => s39_p1_ok K B1 s w @h) (tr_bif tr_id tr_id))) (by kernel_rfl) (by kernel_rfl) @h
def s39_p6 (K : Value → World → Prop) (B1 : List Value → World → Prop) (t0 t1 t9 t10 : Value) (w : World) : Prop :=
  boI .lss t10 t9 (fun t11 w =>
  ifb t11
  (s39_p5 K B1 t0 t1 t9 t10 w)
  (K (.tuple #[]) w)) w
def s39_p6_den (K : Value → World → Prop) (M1 : (Nat → Value) → World → Prop) : (Nat → Value) → World → Prop := denL Tryd.prog [(cd (Tryd.f39.body.getD .skip) [1, 0, 0, 0]), (cd (Tryd.f39.body.getD .skip) [1, 0, 0, 1, 0])] (s39_p5_den K M1) (fun i => (bif Nat.beq i 0 then (s39_R K) else (fun _ _ => False))) (s39_R K)
theorem s39_p6_ok (K : Value → World → Prop) (B1 : List Value → World → Prop) (s : Nat → Value) (w : World) (h : s39_p6 K B1 (s 0) (s 1) (s 9) (s 10) w) : Tr (s39_p6_den K (fun s w => B1 [s 0, s 1, s 9, s 10] w) s w) :=
  tr_simple (P := Tryd.prog) (codes := [(cd (Tryd.f39.body.getD .skip) [1, 0, 0, 0]), (cd (Tryd.f39.body.getD .skip) [1, 0, 0, 1, 0])]) (N := (fun s w => s39_p5 K B1 (s 0) (s 1) (s 9) (s 10) w)) (N' := (s39_p5_den K (fun s w => B1 [s 0, s 1, s 9, s 10] w))) (X := (fun i => (bif Nat.beq i 0 then (s39_R K) else (fun _ _ => False)))) (X' := (fun i => (bif Nat.beq i 0 then (s39_R K) else (fun _ _ => False)))) (R := s39_R K) (s := s) (w := w) (p := s39_p6 K B1 (s 0) (s 1) (s 9) (s 10) w) (q := s39_p6_den K (fun s w => B1 [s 0, s 1, s 9, s 10] w) s w) (fun s w h => s39_p5_ok K B1 s w @h) (fun i => (tr_bif tr_id tr_id)) (by kernel_rfl) (by kernel_rfl) @h
def s39_p7_F (K : Value → World → Prop) (B1 : List Value → World → Prop) (l : List Value) (w : World) : Prop :=
  match l with
  | [t0, t1, t9, t10] => s39_p6 K B1 t0 t1 t9 t10 w
  | _ => False
theorem s39_p7_Fe {K : Value → World → Prop} {B1 : List Value → World → Prop} {t0 t1 t9 t10 : Value} {w : World} : s39_p7_F K B1 [t0, t1, t9, t10] w = s39_p6 K B1 t0 t1 t9 t10 w := by kernel_rfl
def s39_p7 (K : Value → World → Prop) (t0 t1 t9 t10 : Value) (w : World) : Prop :=
  LoopL (s39_p7_F K) [t0, t1, t9, t10] w
def s39_p7_den (K : Value → World → Prop) : (Nat → Value) → World → Prop := fun s w => LoopP (fun M1 s w => s39_p6_den K M1 s w) s w
theorem s39_p7_ok (K : Value → World → Prop) (s : Nat → Value) (w : World) (h : s39_p7 K (s 0) (s 1) (s 9) (s 10) w) : Tr (s39_p7_den K s w) :=
  tr_loop (G := fun N' s w => s39_p6_den K N' s w) (F := s39_p7_F K) (sel := fun s => [s 0, s 1, s 9, s 10]) (s := s) (w := w) (p := s39_p7 K (s 0) (s 1) (s 9) (s 10) w) (q := s39_p7_den K s w) (fun B s w h => s39_p6_ok K B s w @h) (by kernel_rfl) (by kernel_rfl) @h
def s39_p8 (K : Value → World → Prop) (t0 t1 : Value) (w : World) : Prop :=
  nck t0 (fun t6 w =>
  fd 3 t6 (fun t7 w =>
  ld1 t7 (fun t8 w =>
  lnS t8 (fun t9 w =>
  s39_p7 K t0 t1 t9 (.int .i64 0) w) w) w) w) w
def s39_p8_den (K : Value → World → Prop) : (Nat → Value) → World → Prop := denL Tryd.prog [(cd (Tryd.f39.body.getD .skip) [0])] (s39_p7_den K) (fun i => (fun _ _ => False)) (s39_R K)
theorem s39_p8_ok (K : Value → World → Prop) (s : Nat → Value) (w : World) (h : s39_p8 K (s 0) (s 1) w) : Tr (s39_p8_den K s w) :=
  tr_simple (P := Tryd.prog) (codes := [(cd (Tryd.f39.body.getD .skip) [0])]) (N := (fun s w => s39_p7 K (s 0) (s 1) (s 9) (s 10) w)) (N' := (s39_p7_den K)) (X := (fun i => (fun _ _ => False))) (X' := (fun i => (fun _ _ => False))) (R := s39_R K) (s := s) (w := w) (p := s39_p8 K (s 0) (s 1) w) (q := s39_p8_den K s w) (fun s w h => s39_p7_ok K s w @h) (fun i => tr_id) (by kernel_rfl) (by kernel_rfl) @h
/-- the call, from the text -/
theorem c39 (t0 t1 : Value) {K : Value → World → Prop} {w : World} (h : s39_p8 K t0 t1 w) : cl Tryd.prog 39 #[t0, t1] K w :=
  calls_of_tr (c := (Tryd.f39.body.getD .skip)) (fn := Tryd.f39) (q := s39_p8_den K (st0 #[t0, t1]) w) Tryd.func39 (by kernel_rfl) (by kernel_rfl) (Nat.le_of_ble_eq_true (by kernel_rfl)) (by kernel_rfl) (by kernel_rfl) (s39_p8_ok K (st0 #[t0, t1]) w @h)

/-! ### function 40 : (*e2e.poolm.Model).Create -/
def s40_R (K : Value → World → Prop) (s : Nat → Value) (w : World) : Prop := retv Tryd.prog s Tryd.f40.results.toList (fun vs => K (pack vs) w) w
def s40_p1 (K : Value → World → Prop) (t0 t1 t2 t8 : Value) (w : World) : Prop :=
  boI .add (.int .i64 5) t8 (fun t36 w =>
  boI .mul t2 t1 (fun t39 w =>
  boI .add t36 t39 (fun t40 w =>
  nck t0 (fun t43 w =>
  fd 0 t43 (fun t44 w =>
  ld1 t44 (fun t45 w =>
  boI .gtr t40 t45 (fun t46 w =>
  ifb t46
  (K (.tuple #[(.int .i64 (-1)), (.int .i64 5)]) w)
  (nck t0 (fun t48 w =>
  fd 0 t48 (fun t49 w =>
  ld1 t49 (fun t50 w =>
  boI .sub t50 t40 (fun t52 w =>
  nck t0 (fun t53 w =>
  fd 0 t53 (fun t54 w =>
  st1 t54 t52 (fun w =>
  nck t0 (fun t57 w =>
  fd 1 t57 (fun t58 w =>
  ld1 t58 (fun t59 w =>
  rs Tryd.prog (Instr.makeMap 58 none) (fun t62 w =>
  bdq [(.int .i64 0), (.int .i64 0), (.map none), (.int .i64 0), (.int .u64 0)] [(some (0, 1), t1), (some (1, 1), t2), (some (2, 1), t62)] (fun t63 w =>
  nw 60 (t63).cells (fun t64 w =>
  bsq 57 [(.pointer none)] 1 [(some (0, 1), t64)] (fun t65 w =>
  apq 57 [(.pointer none)] 8 t59 t65 (fun t66 w =>
  nck t0 (fun t67 w =>
  fd 1 t67 (fun t68 w =>
  st1 t68 t66 (fun w =>
  nck t0 (fun t70 w =>
  fd 1 t70 (fun t71 w =>
  ld1 t71 (fun t72 w =>
  lnS t72 (fun t73 w =>
  boI .sub t73 (.int .i64 1) (fun t74 w =>
  K (.tuple #[t74, (.int .i64 0)]) w) w) w) w) w) w) w) w) w) w) w) w) w) w) w) w) w) w) w) w) w) w) w) w)) w) w) w) w) w) w) w
def s40_p1_den (K : Value → World → Prop) : (Nat → Value) → World → Prop := denL Tryd.prog [(cd (Tryd.f40.body.getD .skip) [1, 1, 1, 1, 1, 1, 0]), (cd (Tryd.f40.body.getD .skip) [1, 1, 1, 1, 1, 1, 1, 0, 0]), (cd (Tryd.f40.body.getD .skip) [1, 1, 1, 1, 1, 1, 1, 0, 1]), (cd (Tryd.f40.body.getD .skip) [1, 1, 1, 1, 1, 1, 1, 1, 0]), (cd (Tryd.f40.body.getD .skip) [1, 1, 1, 1, 1, 1, 1, 1, 1, 0]), (cd (Tryd.f40.body.getD .skip) [1, 1, 1, 1, 1, 1, 1, 1, 1, 1, 0]), (cd (Tryd.f40.body.getD .skip) [1, 1, 1, 1, 1, 1, 1, 1, 1, 1, 1])] (fun _ _ => False) (fun i => (fun _ _ => False)) (s40_R K)
theorem s40_p1_ok (K : Value → World → Prop) (s : Nat → Value) (w : World) (h : s40_p1 K (s 0) (s 1) (s 2) (s 8) w) : Tr (s40_p1_den K s w) :=
  tr_simple (P := Tryd.prog) (codes := [(cd (Tryd.f40.body.getD .skip) [1, 1, 1, 1, 1, 1, 0]), (cd (Tryd.f40.body.getD .skip) [1, 1, 1, 1, 1, 1, 1, 0, 0]), (cd (Tryd.f40.body.getD .skip) [1, 1, 1, 1, 1, 1, 1, 0, 1]), (cd (Tryd.f40.body.getD .skip) [1, 1, 1, 1, 1, 1, 1, 1, 0]), (cd (Tryd.f40.body.getD .skip) [1, 1, 1, 1, 1, 1, 1, 1, 1, 0]), (cd (Tryd.f40.body.getD .skip) [1, 1, 1, 1, 1, 1, 1, 1, 1, 1, 0]), (cd (Tryd.f40.body.getD .skip) [1, 1, 1, 1, 1, 1, 1, 1, 1, 1, 1])]) (N := (fun _ _ => False)) (N' := (fun _ _ => False)) (X := (fun i => (fun _ _ => False))) (X' := (fun i => (fun _ _ => False))) (R := s40_R K) (s := s) (w := w) (p := s40_p1 K (s 0) (s 1) (s 2) (s 8) w) (q := s40_p1_den K s w) tr_id (fun i => tr_id) (by kernel_rfl) (by kernel_rfl) @h
def s40_p2 (K : Value → World → Prop) (t0 t1 t2 : Value) (w : World) : Prop :=
  boI .lss t1 (.int .i64 1) (fun t11 w =>
  gd t11 false (fun K w => K t1 w) (fun t13 w =>
  gd t11 false (boI .gtr t13 (.int .i64 4096)) (fun t14 w =>
  pk t11 (.bool true) t14 (fun t15 w =>
  ifb t15
  (K (.tuple #[(.int .i64 (-1)), (.int .i64 3)]) w)
  (boI .lss t2 (.int .i64 1) (fun t17 w =>
  gd t17 false (fun K w => K t2 w) (fun t19 w =>
  gd t17 false (boI .gtr t19 (.int .i64 65536)) (fun t20 w =>
  pk t17 (.bool true) t20 (fun t21 w =>
  ifb t21
  (K (.tuple #[(.int .i64 (-1)), (.int .i64 3)]) w)
  (nck t0 (fun t23 w =>
  fd 1 t23 (fun t24 w =>
  ld1 t24 (fun t25 w =>
  lnS t25 (fun t26 w =>
  boI .eql t26 (.int .i64 8) (fun t27 w =>
  ifb t27
  (K (.tuple #[(.int .i64 (-1)), (.int .i64 4)]) w)
  (boI .quo t2 (.int .i64 64) (fun t29 w =>
  boI .rem t2 (.int .i64 64) (fun t31 w =>
  boI .gtr t31 (.int .i64 0) (fun t32 w =>
  ifb t32
  (boI .add t29 (.int .i64 1) (fun t34 w =>
  s40_p1 K t0 t1 t2 t34 w) w)
  (s40_p1 K t0 t1 t2 t29 w)) w) w) w)) w) w) w) w) w)) w) w) w) w)) w) w) w) w
def s40_p2_den (K : Value → World → Prop) : (Nat → Value) → World → Prop := denL Tryd.prog [(cd (Tryd.f40.body.getD .skip) [0]), (cd (Tryd.f40.body.getD .skip) [1, 0, 0]), (cd (Tryd.f40.body.getD .skip) [1, 0, 1]), (cd (Tryd.f40.body.getD .skip) [1, 1, 0, 0]), (cd (Tryd.f40.body.getD .skip) [1, 1, 0, 1]), (cd (Tryd.f40.body.getD .skip) [1, 1, 1, 0, 0]), (cd (Tryd.f40.body.getD .skip) [1, 1, 1, 0, 1]), (cd (Tryd.f40.body.getD .skip) [1, 1, 1, 1, 0]), (cd (Tryd.f40.body.getD .skip) [1, 1, 1, 1, 1, 0, 0]), (cd (Tryd.f40.body.getD .skip) [1, 1, 1, 1, 1, 0, 1])] (s40_p1_den K) (fun i => (fun _ _ => False)) (s40_R K)
theorem s40_p2_ok (K : Value → World → Prop) (s : Nat → Value) (w : World) (h : s40_p2 K (s 0) (s 1) (s 2) w) : Tr (s40_p2_den K s w) :=
  tr_simple (P := Tryd.prog) (codes := [(cd (Tryd.f40.body.getD .skip) [0]), (cd (Tryd.f40.body.getD .skip) [1, 0, 0]), (cd (Tryd.f40.body.getD .skip) [1, 0, 1]), (cd (Tryd.f40.body.getD .skip) [1, 1, 0, 0]), (cd (Tryd.f40.body.getD .skip) [1, 1, 0, 1]), (cd (Tryd.f40.body.getD .skip) [1, 1, 1, 0, 0]), (cd (Tryd.f40.body.getD .skip) [1, 1, 1, 0, 1]), (cd (Tryd.f40.body.getD .skip) [1, 1, 1, 1, 0]), (cd (Tryd.f40.body.getD .skip) [1, 1, 1, 1, 1, 0, 0]), (cd (Tryd.f40.body.getD .skip) [1, 1, 1, 1, 1, 0, 1])]) (N := (fun s w => s40_p1 K (s 0) (s 1) (s 2) (s 8) w)) (N' := (s40_p1_den K)) (X := (fun i => (fun _ _ => False))) (X' := (fun i => (fun _ _ => False))) (R := s40_R K) (s := s) (w := w) (p := s40_p2 K (s 0) (s 1) (s 2) w) (q := s40_p2_den K s w) (fun s w h => s40_p1_ok K s w @h) (fun i => tr_id) (by kernel_rfl) (by kernel_rfl) @h
/-- the call, from the text -/
theorem c40 (t0 t1 t2 : Value) {K : Value → World → Prop} {w : World} (h : s40_p2 K t0 t1 t2 w) : cl Tryd.prog 40 #[t0, t1, t2] K w :=
  calls_of_tr (c := (Tryd.f40.body.getD .skip)) (fn := Tryd.f40) (q := s40_p2_den K (st0 #[t0, t1, t2]) w) Tryd.func40 (by kernel_rfl) (by kernel_rfl) (Nat.le_of_ble_eq_true (by kernel_rfl)) (by kernel_rfl) (by kernel_rfl) (s40_p2_ok K (st0 #[t0, t1, t2]) w @h)

/-! ### function 41 : (*e2e.poolm.Model).Alloc -/
def s41_R (K : Value → World → Prop) (s : Nat → Value) (w : World) : Prop := retv Tryd.prog s Tryd.f41.results.toList (fun vs => K (pack vs) w) w
def s41_p1 (K : Value → World → Prop) (t5 t26 : Value) (w : World) : Prop :=
  ifb t26
  (nck t5 (fun t28 w =>
  fd 4 t28 (fun t29 w =>
  ld1 t29 (fun t30 w =>
  boI .add t30 (.int .u64 1) (fun t31 w =>
  nck t5 (fun t32 w =>
  fd 4 t32 (fun t33 w =>
  st1 t33 t31 (fun w =>
  K (.int .i64 7) w) w) w) w) w) w) w) w)
  (K (.int .i64 0) w)
def s41_p1_den (K : Value → World → Prop) : (Nat → Value) → World → Prop := denL Tryd.prog [(cd (Tryd.f41.body.getD .skip) [1, 1, 1, 0, 1]), (cd (Tryd.f41.body.getD .skip) [1, 1, 1, 1, 0]), (cd (Tryd.f41.body.getD .skip) [1, 1, 1, 1, 1])] (fun _ _ => False) (fun i => (fun _ _ => False)) (s41_R K)
theorem s41_p1_ok (K : Value → World → Prop) (s : Nat → Value) (w : World) (h : s41_p1 K (s 5) (s 26) w) : Tr (s41_p1_den K s w) :=
  tr_simple (P := Tryd.prog) (codes := [(cd (Tryd.f41.body.getD .skip) [1, 1, 1, 0, 1]), (cd (Tryd.f41.body.getD .skip) [1, 1, 1, 1, 0]), (cd (Tryd.f41.body.getD .skip) [1, 1, 1, 1, 1])]) (N := (fun _ _ => False)) (N' := (fun _ _ => False)) (X := (fun i => (fun _ _ => False))) (X' := (fun i => (fun _ _ => False))) (R := s41_R K) (s := s) (w := w) (p := s41_p1 K (s 5) (s 26) w) (q := s41_p1_den K s w) tr_id (fun i => tr_id) (by kernel_rfl) (by kernel_rfl) @h
def s41_p2_d (K : Value → World → Prop) (t5 : Value) (w0 w : World) : Prop :=
  nck t5 (fun t18 _ =>
  fd 2 t18 (fun t19 _ =>
  ld1 t19 (fun t20 _ =>
  qv (rs Tryd.prog (Builtin.len_ #[58] 3 #[t20])) w0 (fun t21 =>
  nck t5 (fun t23 _ =>
  fd 1 t23 (fun t24 _ =>
  ld1 t24 (fun t25 _ =>
  boI .eql t21 t25 (fun t26 _ =>
  s41_p1 K t5 t26 w) w0) w0) w0) w0)) w0) w0) w0
def s41_p2 (K : Value → World → Prop) (t5 : Value) (w : World) : Prop := s41_p2_d K t5 (drw w) (drw w)
def s41_p2_den (K : Value → World → Prop) : (Nat → Value) → World → Prop := denL Tryd.prog [(cd (Tryd.f41.body.getD .skip) [1, 1, 1, 0, 0])] (s41_p1_den K) (fun i => (fun _ _ => False)) (s41_R K)
theorem s41_p2_ok (K : Value → World → Prop) (s : Nat → Value) (w : World) (h : s41_p2 K (s 5) w) : Tr (s41_p2_den K s w) :=
  tr_draw (P := Tryd.prog) (ops := (ro (cd (Tryd.f41.body.getD .skip) [1, 1, 1, 0, 0]))) (ms := [0, 1, 3, 7, 15, 0, 32, 96, 224, 511]) (cs := [0, 1, 2, 3, 4, 5, 6, 7, 8, 9]) (N := (fun s w => s41_p1 K (s 5) (s 26) w)) (N' := (s41_p1_den K)) (s := s) (w := w) (p := s41_p2 K (s 5) w) (q := s41_p2_den K s w) (by kernel_rfl) (by kernel_rfl) (fun s w h => s41_p1_ok K s w @h) (by kernel_rfl) (by kernel_rfl) @h
def s41_p3 (K : Value → World → Prop) (t0 t1 : Value) (w : World) : Prop :=
  cl Tryd.prog 60 #[t0, t1] (fun t8 w =>
  un .not t8 (fun t9 w =>
  ifb t9
  (K (.int .i64 6) w)
  (nck t0 (fun t11 w =>
  fd 1 t11 (fun t12 w =>
  ld1 t12 (fun t13 w =>
  ixs 1 t13 t1 (fun t15 w =>
  ld1 t15 (fun t16 w =>
  s41_p2 K t16 w) w) w) w) w) w)) w) w
def s41_p3_den (K : Value → World → Prop) : (Nat → Value) → World → Prop := denL Tryd.prog [(cd (Tryd.f41.body.getD .skip) [0]), (cd (Tryd.f41.body.getD .skip) [1, 0, 0]), (cd (Tryd.f41.body.getD .skip) [1, 0, 1]), (cd (Tryd.f41.body.getD .skip) [1, 1, 0])] (s41_p2_den K) (fun i => (fun _ _ => False)) (s41_R K)
theorem s41_p3_ok (K : Value → World → Prop) (s : Nat → Value) (w : World) (h : s41_p3 K (s 0) (s 1) w) : Tr (s41_p3_den K s w) :=
  tr_simple (P := Tryd.prog) (codes := [(cd (Tryd.f41.body.getD .skip) [0]), (cd (Tryd.f41.body.getD .skip) [1, 0, 0]), (cd (Tryd.f41.body.getD .skip) [1, 0, 1]), (cd (Tryd.f41.body.getD .skip) [1, 1, 0])]) (N := (fun s w => s41_p2 K (s 5) w)) (N' := (s41_p2_den K)) (X := (fun i => (fun _ _ => False))) (X' := (fun i => (fun _ _ => False))) (R := s41_R K) (s := s) (w := w) (p := s41_p3 K (s 0) (s 1) w) (q := s41_p3_den K s w) (fun s w h => s41_p2_ok K s w @h) (fun i => tr_id) (by kernel_rfl) (by kernel_rfl) @h
/-- the call, from the text -/
theorem c41 (t0 t1 : Value) {K : Value → World → Prop} {w : World} (h : s41_p3 K t0 t1 w) : cl Tryd.prog 41 #[t0, t1] K w :=
  calls_of_tr (c := (Tryd.f41.body.getD .skip)) (fn := Tryd.f41) (q := s41_p3_den K (st0 #[t0, t1]) w) Tryd.func41 (by kernel_rfl) (by kernel_rfl) (Nat.le_of_ble_eq_true (by kernel_rfl)) (by kernel_rfl) (by kernel_rfl) (s41_p3_ok K (st0 #[t0, t1]) w @h)

/-! ### function 42 : (*e2e.poolm.Model).Take -/
def s42_R (K : Value → World → Prop) (s : Nat → Value) (w : World) : Prop := retv Tryd.prog s Tryd.f42.results.toList (fun vs => K (pack vs) w) w
def s42_p1 (K : Value → World → Prop) (w : World) : Prop :=
  K (.bool true) w
def s42_p1_den (K : Value → World → Prop) : (Nat → Value) → World → Prop := denL Tryd.prog [(cd (Tryd.f42.body.getD .skip) [1, 1, 1, 1, 1, 0]), (cd (Tryd.f42.body.getD .skip) [1, 1, 1, 1, 1, 1])] (fun _ _ => False) (fun i => (fun _ _ => False)) (s42_R K)
theorem s42_p1_ok (K : Value → World → Prop) (s : Nat → Value) (w : World) (h : s42_p1 K w) : Tr (s42_p1_den K s w) :=
  tr_simple (P := Tryd.prog) (codes := [(cd (Tryd.f42.body.getD .skip) [1, 1, 1, 1, 1, 0]), (cd (Tryd.f42.body.getD .skip) [1, 1, 1, 1, 1, 1])]) (N := (fun _ _ => False)) (N' := (fun _ _ => False)) (X := (fun i => (fun _ _ => False))) (X' := (fun i => (fun _ _ => False))) (R := s42_R K) (s := s) (w := w) (p := s42_p1 K w) (q := s42_p1_den K s w) tr_id (fun i => tr_id) (by kernel_rfl) (by kernel_rfl) @h
def s42_p2 (K : Value → World → Prop) (t0 t1 t2 : Value) (w : World) : Prop :=
  nck t0 (fun t10 w =>
  fd 1 t10 (fun t11 w =>
  ld1 t11 (fun t12 w =>
  ixs 1 t12 t1 (fun t14 w =>
  ld1 t14 (fun t15 w =>
  boI .lss t2 (.int .i64 0) (fun t17 w =>
  gd t17 false (fun K w => K t2 w) (fun t19 w =>
  gd t17 false (fun K w => K t15 w) (fun t20 w =>
  gd t17 false (nck t20) (fun t21 w =>
  gd t17 false (fd 1 t21) (fun t22 w =>
  gd t17 false (ld1 t22) (fun t23 w =>
  gd t17 false (boI .geq t19 t23) (fun t24 w =>
  pk t17 (.bool true) t24 (fun t25 w =>
  gd t25 false (fun K w => K t15 w) (fun t27 w =>
  gd t25 false (nck t27) (fun t28 w =>
  gd t25 false (fd 2 t28) (fun t29 w =>
  gd t25 false (ld1 t29) (fun t30 w =>
  gd t25 false (fun K w => K t2 w) (fun t31 w =>
  gd t25 false (rs Tryd.prog (Instr.lookup 58 t30 t31 false)) (fun t32 w =>
  pk t25 (.bool true) t32 (fun t33 w =>
  ifb t33
  (K (.bool false) w)
  (nck t15 (fun t35 w =>
  fd 2 t35 (fun t36 w =>
  ld1 t36 (fun t37 w =>
  ru Tryd.prog (Instr.mapUpdate 58 t37 t2 (.bool true)) (fun w =>
  nck t15 (fun t40 w =>
  fd 2 t40 (fun t41 w =>
  ld1 t41 (fun t42 w =>
  rs Tryd.prog (Builtin.len_ #[58] 3 #[t42]) (fun t43 w =>
  nck t15 (fun t46 w =>
  fd 3 t46 (fun t47 w =>
  ld1 t47 (fun t48 w =>
  boI .gtr t43 t48 (fun t49 w =>
  ifb t49
  (nck t15 (fun t52 w =>
  fd 3 t52 (fun t53 w =>
  st1 t53 t43 (fun w =>
  s42_p1 K w) w) w) w)
  (s42_p1 K w)) w) w) w) w) w) w) w) w) w) w) w) w)) w) w) w) w) w) w) w) w) w) w) w) w) w) w) w) w) w) w) w) w
def s42_p2_den (K : Value → World → Prop) : (Nat → Value) → World → Prop := denL Tryd.prog [(cd (Tryd.f42.body.getD .skip) [0]), (cd (Tryd.f42.body.getD .skip) [1, 0]), (cd (Tryd.f42.body.getD .skip) [1, 1, 0, 0]), (cd (Tryd.f42.body.getD .skip) [1, 1, 0, 1]), (cd (Tryd.f42.body.getD .skip) [1, 1, 1, 0]), (cd (Tryd.f42.body.getD .skip) [1, 1, 1, 1, 0, 0]), (cd (Tryd.f42.body.getD .skip) [1, 1, 1, 1, 0, 1, 0]), (cd (Tryd.f42.body.getD .skip) [1, 1, 1, 1, 0, 1, 1])] (s42_p1_den K) (fun i => (fun _ _ => False)) (s42_R K)
theorem s42_p2_ok (K : Value → World → Prop) (s : Nat → Value) (w : World) (h : s42_p2 K (s 0) (s 1) (s 2) w) : Tr (s42_p2_den K s w) :=
  tr_simple (P := Tryd.prog) (codes := [(cd (Tryd.f42.body.getD .skip) [0]), (cd (Tryd.f42.body.getD .skip) [1, 0]), (cd (Tryd.f42.body.getD .skip) [1, 1, 0, 0]), (cd (Tryd.f42.body.getD .skip) [1, 1, 0, 1]), (cd (Tryd.f42.body.getD .skip) [1, 1, 1, 0]), (cd (Tryd.f42.body.getD .skip) [1, 1, 1, 1, 0, 0]), (cd (Tryd.f42.body.getD .skip) [1, 1, 1, 1, 0, 1, 0]), (cd (Tryd.f42.body.getD .skip) [1, 1, 1, 1, 0, 1, 1])]) (N := (fun s w => s42_p1 K w)) (N' := (s42_p1_den K)) (X := (fun i => (fun _ _ => False))) (X' := (fun i => (fun _ _ => False))) (R := s42_R K) (s := s) (w := w) (p := s42_p2 K (s 0) (s 1) (s 2) w) (q := s42_p2_den K s w) (fun s w h => s42_p1_ok K s w @h) (fun i => tr_id) (by kernel_rfl) (by kernel_rfl) @h
/-- the call, from the text -/
theorem c42 (t0 t1 t2 : Value) {K : Value → World → Prop} {w : World} (h : s42_p2 K t0 t1 t2 w) : cl Tryd.prog 42 #[t0, t1, t2] K w :=
  calls_of_tr (c := (Tryd.f42.body.getD .skip)) (fn := Tryd.f42) (q := s42_p2_den K (st0 #[t0, t1, t2]) w) Tryd.func42 (by kernel_rfl) (by kernel_rfl) (Nat.le_of_ble_eq_true (by kernel_rfl)) (by kernel_rfl) (by kernel_rfl) (s42_p2_ok K (st0 #[t0, t1, t2]) w @h)

/-! ### function 43 : (*e2e.poolm.Model).Free -/
def s43_R (K : Value → World → Prop) (s : Nat → Value) (w : World) : Prop := retv Tryd.prog s Tryd.f43.results.toList (fun vs => K (pack vs) w) w
def s43_p1 (K : Value → World → Prop) (w : World) : Prop :=
  K (.int .i64 0) w
def s43_p1_den (K : Value → World → Prop) : (Nat → Value) → World → Prop := denL Tryd.prog [(cd (Tryd.f43.body.getD .skip) [1, 1, 1, 1, 1, 1, 1, 0]), (cd (Tryd.f43.body.getD .skip) [1, 1, 1, 1, 1, 1, 1, 1])] (fun _ _ => False) (fun i => (fun _ _ => False)) (s43_R K)
theorem s43_p1_ok (K : Value → World → Prop) (s : Nat → Value) (w : World) (h : s43_p1 K w) : Tr (s43_p1_den K s w) :=
  tr_simple (P := Tryd.prog) (codes := [(cd (Tryd.f43.body.getD .skip) [1, 1, 1, 1, 1, 1, 1, 0]), (cd (Tryd.f43.body.getD .skip) [1, 1, 1, 1, 1, 1, 1, 1])]) (N := (fun _ _ => False)) (N' := (fun _ _ => False)) (X := (fun i => (fun _ _ => False))) (X' := (fun i => (fun _ _ => False))) (R := s43_R K) (s := s) (w := w) (p := s43_p1 K w) (q := s43_p1_den K s w) tr_id (fun i => tr_id) (by kernel_rfl) (by kernel_rfl) @h
def s43_p2_d (K : Value → World → Prop) (t2 t7 : Value) (w0 w : World) : Prop :=
  nck t7 (fun t54 _ =>
  fd 2 t54 (fun t55 _ =>
  ld1 t55 (fun t56 _ =>
  nck t7 (fun t59 _ =>
  fd 0 t59 (fun t60 _ =>
  ld1 t60 (fun t61 _ =>
  boI .quo t2 t61 (fun t62 _ =>
  rs Tryd.prog (Builtin.delete_ #[58, 2] 0 #[t56, t62]) (fun _ w =>
  s43_p1 K w) w) w0) w0) w0) w0) w0) w0) w0
def s43_p2 (K : Value → World → Prop) (t2 t7 : Value) (w : World) : Prop := s43_p2_d K t2 t7 (drw w) (drw w)
def s43_p2_den (K : Value → World → Prop) : (Nat → Value) → World → Prop := denL Tryd.prog [(cd (Tryd.f43.body.getD .skip) [1, 1, 1, 1, 1, 1, 0])] (s43_p1_den K) (fun i => (fun _ _ => False)) (s43_R K)
theorem s43_p2_ok (K : Value → World → Prop) (s : Nat → Value) (w : World) (h : s43_p2 K (s 2) (s 7) w) : Tr (s43_p2_den K s w) :=
  tr_draw (P := Tryd.prog) (ops := (ro (cd (Tryd.f43.body.getD .skip) [1, 1, 1, 1, 1, 1, 0]))) (ms := [0, 1, 3, 7, 0, 0, 32, 96, 224, 496, 1023]) (cs := [0, 1, 2, 3, 4, 5, 6, 7, 8, 9]) (N := (fun s w => s43_p1 K w)) (N' := (s43_p1_den K)) (s := s) (w := w) (p := s43_p2 K (s 2) (s 7) w) (q := s43_p2_den K s w) (by kernel_rfl) (by kernel_rfl) (fun s w h => s43_p1_ok K s w @h) (by kernel_rfl) (by kernel_rfl) @h
def s43_p3 (K : Value → World → Prop) (t2 t7 t52 : Value) (w : World) : Prop :=
  ifb t52
  (K (.int .i64 10) w)
  (s43_p2 K t2 t7 w)
def s43_p3_den (K : Value → World → Prop) : (Nat → Value) → World → Prop := denL Tryd.prog [(cd (Tryd.f43.body.getD .skip) [1, 1, 1, 1, 1, 0, 1])] (s43_p2_den K) (fun i => (fun _ _ => False)) (s43_R K)
theorem s43_p3_ok (K : Value → World → Prop) (s : Nat → Value) (w : World) (h : s43_p3 K (s 2) (s 7) (s 52) w) : Tr (s43_p3_den K s w) :=
  tr_simple (P := Tryd.prog) (codes := [(cd (Tryd.f43.body.getD .skip) [1, 1, 1, 1, 1, 0, 1])]) (N := (fun s w => s43_p2 K (s 2) (s 7) w)) (N' := (s43_p2_den K)) (X := (fun i => (fun _ _ => False))) (X' := (fun i => (fun _ _ => False))) (R := s43_R K) (s := s) (w := w) (p := s43_p3 K (s 2) (s 7) (s 52) w) (q := s43_p3_den K s w) (fun s w h => s43_p2_ok K s w @h) (fun i => tr_id) (by kernel_rfl) (by kernel_rfl) @h
def s43_p4_d (K : Value → World → Prop) (t2 t7 : Value) (w0 w : World) : Prop :=
  nck t7 (fun t42 _ =>
  fd 2 t42 (fun t43 _ =>
  ld1 t43 (fun t44 _ =>
  nck t7 (fun t47 _ =>
  fd 0 t47 (fun t48 _ =>
  ld1 t48 (fun t49 _ =>
  boI .quo t2 t49 (fun t50 _ =>
  qv (rs Tryd.prog (Instr.lookup 58 t44 t50 false)) w0 (fun t51 =>
  un .not t51 (fun t52 _ =>
  s43_p3 K t2 t7 t52 w) w0)) w0) w0) w0) w0) w0) w0) w0
def s43_p4 (K : Value → World → Prop) (t2 t7 : Value) (w : World) : Prop := s43_p4_d K t2 t7 (drw w) (drw w)
def s43_p4_den (K : Value → World → Prop) : (Nat → Value) → World → Prop := denL Tryd.prog [(cd (Tryd.f43.body.getD .skip) [1, 1, 1, 1, 1, 0, 0])] (s43_p3_den K) (fun i => (fun _ _ => False)) (s43_R K)
theorem s43_p4_ok (K : Value → World → Prop) (s : Nat → Value) (w : World) (h : s43_p4 K (s 2) (s 7) w) : Tr (s43_p4_den K s w) :=
  tr_draw (P := Tryd.prog) (ops := (ro (cd (Tryd.f43.body.getD .skip) [1, 1, 1, 1, 1, 0, 0]))) (ms := [0, 1, 3, 7, 0, 0, 32, 96, 224, 496, 1023, 2047]) (cs := [0, 1, 2, 3, 4, 5, 6, 7, 8, 9, 10, 11]) (N := (fun s w => s43_p3 K (s 2) (s 7) (s 52) w)) (N' := (s43_p3_den K)) (s := s) (w := w) (p := s43_p4 K (s 2) (s 7) w) (q := s43_p4_den K s w) (by kernel_rfl) (by kernel_rfl) (fun s w h => s43_p3_ok K s w @h) (by kernel_rfl) (by kernel_rfl) @h
def s43_p5 (K : Value → World → Prop) (t2 t7 t33 : Value) (w : World) : Prop :=
  ifb t33
  (K (.int .i64 8) w)
  (nck t7 (fun t36 w =>
  fd 0 t36 (fun t37 w =>
  ld1 t37 (fun t38 w =>
  boI .rem t2 t38 (fun t39 w =>
  boI .neq t39 (.int .i64 0) (fun t40 w =>
  ifb t40
  (K (.int .i64 9) w)
  (s43_p4 K t2 t7 w)) w) w) w) w) w)
def s43_p5_den (K : Value → World → Prop) : (Nat → Value) → World → Prop := denL Tryd.prog [(cd (Tryd.f43.body.getD .skip) [1, 1, 1, 0, 1]), (cd (Tryd.f43.body.getD .skip) [1, 1, 1, 1, 0, 0]), (cd (Tryd.f43.body.getD .skip) [1, 1, 1, 1, 0, 1])] (s43_p4_den K) (fun i => (fun _ _ => False)) (s43_R K)
theorem s43_p5_ok (K : Value → World → Prop) (s : Nat → Value) (w : World) (h : s43_p5 K (s 2) (s 7) (s 33) w) : Tr (s43_p5_den K s w) :=
  tr_simple (P := Tryd.prog) (codes := [(cd (Tryd.f43.body.getD .skip) [1, 1, 1, 0, 1]), (cd (Tryd.f43.body.getD .skip) [1, 1, 1, 1, 0, 0]), (cd (Tryd.f43.body.getD .skip) [1, 1, 1, 1, 0, 1])]) (N := (fun s w => s43_p4 K (s 2) (s 7) w)) (N' := (s43_p4_den K)) (X := (fun i => (fun _ _ => False))) (X' := (fun i => (fun _ _ => False))) (R := s43_R K) (s := s) (w := w) (p := s43_p5 K (s 2) (s 7) (s 33) w) (q := s43_p5_den K s w) (fun s w h => s43_p4_ok K s w @h) (fun i => tr_id) (by kernel_rfl) (by kernel_rfl) @h
def s43_p6_d (K : Value → World → Prop) (t2 t7 : Value) (w0 w : World) : Prop :=
  boI .lss t2 (.int .i64 0) (fun t20 _ =>
  gd t20 false (fun K w => K t2 w) (fun t22 _ =>
  gd t20 false (fun K w => K t7 w) (fun t23 _ =>
  gd t20 false (nck t23) (fun t24 _ =>
  gd t20 false (fd 1 t24) (fun t25 _ =>
  gd t20 false (ld1 t25) (fun t26 _ =>
  gd t20 false (fun K w => K t7 w) (fun t27 _ =>
  gd t20 false (nck t27) (fun t28 _ =>
  gd t20 false (fd 0 t28) (fun t29 _ =>
  gd t20 false (ld1 t29) (fun t30 _ =>
  gd t20 false (boI .mul t26 t30) (fun t31 _ =>
  gd t20 false (boI .geq t22 t31) (fun t32 _ =>
  pk t20 (.bool true) t32 (fun t33 _ =>
  s43_p5 K t2 t7 t33 w) w0) w0) w0) w0) w0) w0) w0) w0) w0) w0) w0) w0) w0
def s43_p6 (K : Value → World → Prop) (t2 t7 : Value) (w : World) : Prop := s43_p6_d K t2 t7 (drw w) (drw w)
def s43_p6_den (K : Value → World → Prop) : (Nat → Value) → World → Prop := denL Tryd.prog [(cd (Tryd.f43.body.getD .skip) [1, 1, 1, 0, 0])] (s43_p5_den K) (fun i => (fun _ _ => False)) (s43_R K)
theorem s43_p6_ok (K : Value → World → Prop) (s : Nat → Value) (w : World) (h : s43_p6 K (s 2) (s 7) w) : Tr (s43_p6_den K s w) :=
  tr_draw (P := Tryd.prog) (ops := (ro (cd (Tryd.f43.body.getD .skip) [1, 1, 1, 0, 0]))) (ms := [0, 1, 3, 7, 7, 23, 55, 119, 7, 263, 775, 1799, 4087, 8191, 16383]) (cs := [0, 1, 2, 3, 4, 5, 6, 7, 8, 9, 10, 11, 12, 13, 14]) (N := (fun s w => s43_p5 K (s 2) (s 7) (s 33) w)) (N' := (s43_p5_den K)) (s := s) (w := w) (p := s43_p6 K (s 2) (s 7) w) (q := s43_p6_den K s w) (by kernel_rfl) (by kernel_rfl) (fun s w h => s43_p5_ok K s w @h) (by kernel_rfl) (by kernel_rfl) @h
def s43_p7 (K : Value → World → Prop) (t0 t1 t2 : Value) (w : World) : Prop :=
  cl Tryd.prog 60 #[t0, t1] (fun t10 w =>
  un .not t10 (fun t11 w =>
  ifb t11
  (K (.int .i64 6) w)
  (nck t0 (fun t13 w =>
  fd 1 t13 (fun t14 w =>
  ld1 t14 (fun t15 w =>
  ixs 1 t15 t1 (fun t17 w =>
  ld1 t17 (fun t18 w =>
  s43_p6 K t2 t18 w) w) w) w) w) w)) w) w
def s43_p7_den (K : Value → World → Prop) : (Nat → Value) → World → Prop := denL Tryd.prog [(cd (Tryd.f43.body.getD .skip) [0]), (cd (Tryd.f43.body.getD .skip) [1, 0, 0]), (cd (Tryd.f43.body.getD .skip) [1, 0, 1]), (cd (Tryd.f43.body.getD .skip) [1, 1, 0])] (s43_p6_den K) (fun i => (fun _ _ => False)) (s43_R K)
theorem s43_p7_ok (K : Value → World → Prop) (s : Nat → Value) (w : World) (h : s43_p7 K (s 0) (s 1) (s 2) w) : Tr (s43_p7_den K s w) :=
  tr_simple (P := Tryd.prog) (codes := [(cd (Tryd.f43.body.getD .skip) [0]), (cd (Tryd.f43.body.getD .skip) [1, 0, 0]), (cd (Tryd.f43.body.getD .skip) [1, 0, 1]), (cd (Tryd.f43.body.getD .skip) [1, 1, 0])]) (N := (fun s w => s43_p6 K (s 2) (s 7) w)) (N' := (s43_p6_den K)) (X := (fun i => (fun _ _ => False))) (X' := (fun i => (fun _ _ => False))) (R := s43_R K) (s := s) (w := w) (p := s43_p7 K (s 0) (s 1) (s 2) w) (q := s43_p7_den K s w) (fun s w h => s43_p6_ok K s w @h) (fun i => tr_id) (by kernel_rfl) (by kernel_rfl) @h
/-- the call, from the text -/
theorem c43 (t0 t1 t2 : Value) {K : Value → World → Prop} {w : World} (h : s43_p7 K t0 t1 t2 w) : cl Tryd.prog 43 #[t0, t1, t2] K w :=
  calls_of_tr (c := (Tryd.f43.body.getD .skip)) (fn := Tryd.f43) (q := s43_p7_den K (st0 #[t0, t1, t2]) w) Tryd.func43 (by kernel_rfl) (by kernel_rfl) (Nat.le_of_ble_eq_true (by kernel_rfl)) (by kernel_rfl) (by kernel_rfl) (s43_p7_ok K (st0 #[t0, t1, t2]) w @h)

/-! ### function 44 : (*e2e.poolm.Model).Stats -/
def s44_R (K : Value → World → Prop) (s : Nat → Value) (w : World) : Prop := retv Tryd.prog s Tryd.f44.results.toList (fun vs => K (pack vs) w) w
def s44_p1 (K : Value → World → Prop) (t4 t5 : Value) (w : World) : Prop :=
  ldn 4 t4 (fun r0 _ =>
  K (.tuple #[r0, t5]) w) w
def s44_p1_den (K : Value → World → Prop) : (Nat → Value) → World → Prop := denL Tryd.prog [(cd (Tryd.f44.body.getD .skip) [1, 1, 1, 1, 1])] (fun _ _ => False) (fun i => (fun _ _ => False)) (s44_R K)
theorem s44_p1_ok (K : Value → World → Prop) (s : Nat → Value) (w : World) (h : s44_p1 K (s 4) (s 5) w) : Tr (s44_p1_den K s w) :=
  tr_simple (P := Tryd.prog) (codes := [(cd (Tryd.f44.body.getD .skip) [1, 1, 1, 1, 1])]) (N := (fun _ _ => False)) (N' := (fun _ _ => False)) (X := (fun i => (fun _ _ => False))) (X' := (fun i => (fun _ _ => False))) (R := s44_R K) (s := s) (w := w) (p := s44_p1 K (s 4) (s 5) w) (q := s44_p1_den K s w) tr_id (fun i => tr_id) (by kernel_rfl) (by kernel_rfl) @h
def s44_p2_d (K : Value → World → Prop) (t4 t6 t7 : Value) (w0 w : World) : Prop :=
  cvi .u32 t7 (fun t26 _ =>
  nck t6 (fun t28 _ =>
  fd 1 t28 (fun t29 _ =>
  ld1 t29 (fun t30 _ =>
  boI .sub t30 t7 (fun t32 _ =>
  cvi .u32 t32 (fun t33 _ =>
  nck t6 (fun t35 _ =>
  fd 3 t35 (fun t36 _ =>
  ld1 t36 (fun t37 _ =>
  cvi .u32 t37 (fun t38 _ =>
  nck t6 (fun t40 _ =>
  fd 4 t40 (fun t41 _ =>
  ld1 t41 (fun t42 _ =>
  bdq [(.int .u32 0), (.int .u32 0), (.int .u32 0), (.int .u64 0)] [(some (0, 1), t26), (some (1, 1), t33), (some (2, 1), t38), (some (3, 1), t42)] (fun t43 _ =>
  stn 4 t4 t43 (fun w =>
  s44_p1 K t4 (.int .i64 0) w) w) w0) w0) w0) w0) w0) w0) w0) w0) w0) w0) w0) w0) w0) w0
def s44_p2 (K : Value → World → Prop) (t4 t6 t7 : Value) (w : World) : Prop := s44_p2_d K t4 t6 t7 (drw w) (drw w)
def s44_p2_den (K : Value → World → Prop) : (Nat → Value) → World → Prop := denL Tryd.prog [(cd (Tryd.f44.body.getD .skip) [1, 1, 1, 1, 0])] (s44_p1_den K) (fun i => (fun _ _ => False)) (s44_R K)
theorem s44_p2_ok (K : Value → World → Prop) (s : Nat → Value) (w : World) (h : s44_p2 K (s 4) (s 6) (s 7) w) : Tr (s44_p2_den K s w) :=
  tr_draw (P := Tryd.prog) (ops := (ro (cd (Tryd.f44.body.getD .skip) [1, 1, 1, 1, 0]))) (ms := [0, 1, 0, 4, 12, 28, 0, 124, 252, 0, 512, 1536, 3584, 7680, 0, 16384, 49152, 114688, 262143, 524287, 1048575]) (cs := [0, 1, 2, 3, 4, 5, 6, 7, 8, 9, 10, 11, 12, 13, 14, 15, 16, 17, 18, 20]) (N := (fun s w => s44_p1 K (s 4) (s 5) w)) (N' := (s44_p1_den K)) (s := s) (w := w) (p := s44_p2 K (s 4) (s 6) (s 7) w) (q := s44_p2_den K s w) (by kernel_rfl) (by kernel_rfl) (fun s w h => s44_p1_ok K s w @h) (by kernel_rfl) (by kernel_rfl) @h
def s44_p3 (K : Value → World → Prop) (t0 t1 : Value) (w : World) : Prop :=
  nw 38 #[(.int .u32 0), (.int .u32 0), (.int .u32 0), (.int .u64 0)] (fun t4 w =>
  cl Tryd.prog 60 #[t0, t1] (fun t10 w =>
  un .not t10 (fun t11 w =>
  ifb t11
  (bdq [(.int .u32 0), (.int .u32 0), (.int .u32 0), (.int .u64 0)] [] (fun t12 w =>
  stn 4 t4 t12 (fun w =>
  ldn 4 t4 (fun r0 _ =>
  K (.tuple #[r0, (.int .i64 6)]) w) w) w) w)
  (nck t0 (fun t14 w =>
  fd 1 t14 (fun t15 w =>
  ld1 t15 (fun t16 w =>
  ixs 1 t16 t1 (fun t18 w =>
  ld1 t18 (fun t19 w =>
  nck t19 (fun t21 w =>
  fd 2 t21 (fun t22 w =>
  ld1 t22 (fun t23 w =>
  rs Tryd.prog (Builtin.len_ #[58] 3 #[t23]) (fun t24 w =>
  s44_p2 K t4 t19 t24 w) w) w) w) w) w) w) w) w) w)) w) w) w
def s44_p3_den (K : Value → World → Prop) : (Nat → Value) → World → Prop := denL Tryd.prog [(cd (Tryd.f44.body.getD .skip) [0]), (cd (Tryd.f44.body.getD .skip) [1, 0, 0]), (cd (Tryd.f44.body.getD .skip) [1, 0, 1]), (cd (Tryd.f44.body.getD .skip) [1, 1, 0]), (cd (Tryd.f44.body.getD .skip) [1, 1, 1, 0])] (s44_p2_den K) (fun i => (fun _ _ => False)) (s44_R K)
theorem s44_p3_ok (K : Value → World → Prop) (s : Nat → Value) (w : World) (h : s44_p3 K (s 0) (s 1) w) : Tr (s44_p3_den K s w) :=
  tr_simple (P := Tryd.prog) (codes := [(cd (Tryd.f44.body.getD .skip) [0]), (cd (Tryd.f44.body.getD .skip) [1, 0, 0]), (cd (Tryd.f44.body.getD .skip) [1, 0, 1]), (cd (Tryd.f44.body.getD .skip) [1, 1, 0]), (cd (Tryd.f44.body.getD .skip) [1, 1, 1, 0])]) (N := (fun s w => s44_p2 K (s 4) (s 6) (s 7) w)) (N' := (s44_p2_den K)) (X := (fun i => (fun _ _ => False))) (X' := (fun i => (fun _ _ => False))) (R := s44_R K) (s := s) (w := w) (p := s44_p3 K (s 0) (s 1) w) (q := s44_p3_den K s w) (fun s w h => s44_p2_ok K s w @h) (fun i => tr_id) (by kernel_rfl) (by kernel_rfl) @h
/-- the call, from the text -/
theorem c44 (t0 t1 : Value) {K : Value → World → Prop} {w : World} (h : s44_p3 K t0 t1 w) : cl Tryd.prog 44 #[t0, t1] K w :=
  calls_of_tr (c := (Tryd.f44.body.getD .skip)) (fn := Tryd.f44) (q := s44_p3_den K (st0 #[t0, t1]) w) Tryd.func44 (by kernel_rfl) (by kernel_rfl) (Nat.le_of_ble_eq_true (by kernel_rfl)) (by kernel_rfl) (by kernel_rfl) (s44_p3_ok K (st0 #[t0, t1]) w @h)

/-! ### function 45 : (*e2e.pool.Table).Region -/
def s45_R (K : Value → World → Prop) (s : Nat → Value) (w : World) : Prop := retv Tryd.prog s Tryd.f45.results.toList (fun vs => K (pack vs) w) w
def s45_p1 (K : Value → World → Prop) (t0 : Value) (w : World) : Prop :=
  nw 83 #[(.int .u32 0), (.int .u32 0)] (fun t2 w =>
  nck t0 (fun t4 w =>
  fd 1 t4 (fun t5 w =>
  ldn 2 t5 (fun t6 w =>
  stn 2 t2 t6 (fun w =>
  ldn 2 t2 (fun r0 _ =>
  K r0 w) w) w) w) w) w) w
def s45_p1_den (K : Value → World → Prop) : (Nat → Value) → World → Prop := denL Tryd.prog [(cd (Tryd.f45.body.getD .skip) [0]), (cd (Tryd.f45.body.getD .skip) [1, 0]), (cd (Tryd.f45.body.getD .skip) [1, 1])] (fun _ _ => False) (fun i => (fun _ _ => False)) (s45_R K)
theorem s45_p1_ok (K : Value → World → Prop) (s : Nat → Value) (w : World) (h : s45_p1 K (s 0) w) : Tr (s45_p1_den K s w) :=
  tr_simple (P := Tryd.prog) (codes := [(cd (Tryd.f45.body.getD .skip) [0]), (cd (Tryd.f45.body.getD .skip) [1, 0]), (cd (Tryd.f45.body.getD .skip) [1, 1])]) (N := (fun _ _ => False)) (N' := (fun _ _ => False)) (X := (fun i => (fun _ _ => False))) (X' := (fun i => (fun _ _ => False))) (R := s45_R K) (s := s) (w := w) (p := s45_p1 K (s 0) w) (q := s45_p1_den K s w) tr_id (fun i => tr_id) (by kernel_rfl) (by kernel_rfl) @h
/-- the call, from the text -/
theorem c45 (t0 : Value) {K : Value → World → Prop} {w : World} (h : s45_p1 K t0 w) : cl Tryd.prog 45 #[t0] K w :=
  calls_of_tr (c := (Tryd.f45.body.getD .skip)) (fn := Tryd.f45) (q := s45_p1_den K (st0 #[t0]) w) Tryd.func45 (by kernel_rfl) (by kernel_rfl) (Nat.le_of_ble_eq_true (by kernel_rfl)) (by kernel_rfl) (by kernel_rfl) (s45_p1_ok K (st0 #[t0]) w @h)

/-! ### function 46 : (*e2e.pool.Table).shapeOf -/
def s46_R (K : Value → World → Prop) (s : Nat → Value) (w : World) : Prop := retv Tryd.prog s Tryd.f46.results.toList (fun vs => K (pack vs) w) w
def s46_p1 (K : Value → World → Prop) (t0 t1 : Value) (w : World) : Prop :=
  boI .lss t1 (.int .i64 0) (fun t7 w =>
  gd t7 false (fun K w => K t1 w) (fun t9 w =>
  gd t7 false (fun K w => K t0 w) (fun t10 w =>
  gd t7 false (nck t10) (fun t11 w =>
  gd t7 false (fd 5 t11) (fun t12 w =>
  gd t7 false (ld1 t12) (fun t13 w =>
  gd t7 false (lnS t13) (fun t14 w =>
  gd t7 false (boI .geq t9 t14) (fun t15 w =>
  pk t7 (.bool true) t15 (fun t16 w =>
  ifb t16
  (K (.tuple #[(.pointer none), (.int .i64 6)]) w)
  (nck t0 (fun t18 w =>
  fd 5 t18 (fun t19 w =>
  ld1 t19 (fun t20 w =>
  ixs 6 t20 t1 (fun t22 w =>
  K (.tuple #[t22, (.int .i64 0)]) w) w) w) w) w)) w) w) w) w) w) w) w) w) w
def s46_p1_den (K : Value → World → Prop) : (Nat → Value) → World → Prop := denL Tryd.prog [(cd (Tryd.f46.body.getD .skip) [0]), (cd (Tryd.f46.body.getD .skip) [1, 0, 0]), (cd (Tryd.f46.body.getD .skip) [1, 0, 1]), (cd (Tryd.f46.body.getD .skip) [1, 1, 0]), (cd (Tryd.f46.body.getD .skip) [1, 1, 1])] (fun _ _ => False) (fun i => (fun _ _ => False)) (s46_R K)
theorem s46_p1_ok (K : Value → World → Prop) (s : Nat → Value) (w : World) (h : s46_p1 K (s 0) (s 1) w) : Tr (s46_p1_den K s w) :=
  tr_simple (P := Tryd.prog) (codes := [(cd (Tryd.f46.body.getD .skip) [0]), (cd (Tryd.f46.body.getD .skip) [1, 0, 0]), (cd (Tryd.f46.body.getD .skip) [1, 0, 1]), (cd (Tryd.f46.body.getD .skip) [1, 1, 0]), (cd (Tryd.f46.body.getD .skip) [1, 1, 1])]) (N := (fun _ _ => False)) (N' := (fun _ _ => False)) (X := (fun i => (fun _ _ => False))) (X' := (fun i => (fun _ _ => False))) (R := s46_R K) (s := s) (w := w) (p := s46_p1 K (s 0) (s 1) w) (q := s46_p1_den K s w) tr_id (fun i => tr_id) (by kernel_rfl) (by kernel_rfl) @h
/-- the call, from the text -/
theorem c46 (t0 t1 : Value) {K : Value → World → Prop} {w : World} (h : s46_p1 K t0 t1 w) : cl Tryd.prog 46 #[t0, t1] K w :=
  calls_of_tr (c := (Tryd.f46.body.getD .skip)) (fn := Tryd.f46) (q := s46_p1_den K (st0 #[t0, t1]) w) Tryd.func46 (by kernel_rfl) (by kernel_rfl) (Nat.le_of_ble_eq_true (by kernel_rfl)) (by kernel_rfl) (by kernel_rfl) (s46_p1_ok K (st0 #[t0, t1]) w @h)

/-! ### function 47 : (*e2e.memm.Arena).Size -/
def s47_R (K : Value → World → Prop) (s : Nat → Value) (w : World) : Prop := retv Tryd.prog s Tryd.f47.results.toList (fun vs => K (pack vs) w) w
def s47_p1 (K : Value → World → Prop) (t0 : Value) (w : World) : Prop :=
  nck t0 (fun t4 w =>
  fd 0 t4 (fun t5 w =>
  ld1 t5 (fun t6 w =>
  lnS t6 (fun t7 w =>
  cvi .u64 t7 (fun t8 w =>
  K t8 w) w) w) w) w) w
def s47_p1_den (K : Value → World → Prop) : (Nat → Value) → World → Prop := denL Tryd.prog [(cd (Tryd.f47.body.getD .skip) [0]), (cd (Tryd.f47.body.getD .skip) [1, 0]), (cd (Tryd.f47.body.getD .skip) [1, 1])] (fun _ _ => False) (fun i => (fun _ _ => False)) (s47_R K)
theorem s47_p1_ok (K : Value → World → Prop) (s : Nat → Value) (w : World) (h : s47_p1 K (s 0) w) : Tr (s47_p1_den K s w) :=
  tr_simple (P := Tryd.prog) (codes := [(cd (Tryd.f47.body.getD .skip) [0]), (cd (Tryd.f47.body.getD .skip) [1, 0]), (cd (Tryd.f47.body.getD .skip) [1, 1])]) (N := (fun _ _ => False)) (N' := (fun _ _ => False)) (X := (fun i => (fun _ _ => False))) (X' := (fun i => (fun _ _ => False))) (R := s47_R K) (s := s) (w := w) (p := s47_p1 K (s 0) w) (q := s47_p1_den K s w) tr_id (fun i => tr_id) (by kernel_rfl) (by kernel_rfl) @h
/-- the call, from the text -/
theorem c47 (t0 : Value) {K : Value → World → Prop} {w : World} (h : s47_p1 K t0 w) : cl Tryd.prog 47 #[t0] K w :=
  calls_of_tr (c := (Tryd.f47.body.getD .skip)) (fn := Tryd.f47) (q := s47_p1_den K (st0 #[t0]) w) Tryd.func47 (by kernel_rfl) (by kernel_rfl) (Nat.le_of_ble_eq_true (by kernel_rfl)) (by kernel_rfl) (by kernel_rfl) (s47_p1_ok K (st0 #[t0]) w @h)

/-! ### function 48 : (*e2e.pool.Table).Audit -/
def s48_R (K : Value → World → Prop) (s : Nat → Value) (w : World) : Prop := retv Tryd.prog s Tryd.f48.results.toList (fun vs => K (pack vs) w) w
def s48_p1 (K : Value → World → Prop) (t7 t8 t9 t16 : Value) (w : World) : Prop :=
  fd 1 t7 (fun t175 w =>
  ld1 t175 (fun t176 w =>
  boI .neq t176 (.int .i64 0) (fun t177 w =>
  gd t177 false (fun K w => K t16 w) (fun t179 w =>
  gd t177 false (fun K w => K t9 w) (fun t180 w =>
  gd t177 false (boI .add t179 t180) (fun t181 w =>
  gd t177 false (fun K w => K t8 w) (fun t182 w =>
  gd t177 false (boI .neq t181 t182) (fun t183 w =>
  pk t177 (.bool true) t183 (fun t184 w =>
  ifb t184
  (cl Tryd.prog 54 #[t7, (.int .i64 11)] (fun t185 w =>
  K t185 w) w)
  (K (.int .i64 0) w)) w) w) w) w) w) w) w) w) w
def s48_p1_den (K : Value → World → Prop) : (Nat → Value) → World → Prop := denL Tryd.prog [(cd (Tryd.f48.body.getD .skip) [1, 1, 1, 1, 1, 1, 1, 1, 1, 1, 1, 1, 1, 1, 1, 1, 0, 0]), (cd (Tryd.f48.body.getD .skip) [1, 1, 1, 1, 1, 1, 1, 1, 1, 1, 1, 1, 1, 1, 1, 1, 0, 1]), (cd (Tryd.f48.body.getD .skip) [1, 1, 1, 1, 1, 1, 1, 1, 1, 1, 1, 1, 1, 1, 1, 1, 1, 0]), (cd (Tryd.f48.body.getD .skip) [1, 1, 1, 1, 1, 1, 1, 1, 1, 1, 1, 1, 1, 1, 1, 1, 1, 1])] (fun _ _ => False) (fun i => (fun _ _ => False)) (s48_R K)
theorem s48_p1_ok (K : Value → World → Prop) (s : Nat → Value) (w : World) (h : s48_p1 K (s 7) (s 8) (s 9) (s 16) w) : Tr (s48_p1_den K s w) :=
  tr_simple (P := Tryd.prog) (codes := [(cd (Tryd.f48.body.getD .skip) [1, 1, 1, 1, 1, 1, 1, 1, 1, 1, 1, 1, 1, 1, 1, 1, 0, 0]), (cd (Tryd.f48.body.getD .skip) [1, 1, 1, 1, 1, 1, 1, 1, 1, 1, 1, 1, 1, 1, 1, 1, 0, 1]), (cd (Tryd.f48.body.getD .skip) [1, 1, 1, 1, 1, 1, 1, 1, 1, 1, 1, 1, 1, 1, 1, 1, 1, 0]), (cd (Tryd.f48.body.getD .skip) [1, 1, 1, 1, 1, 1, 1, 1, 1, 1, 1, 1, 1, 1, 1, 1, 1, 1])]) (N := (fun _ _ => False)) (N' := (fun _ _ => False)) (X := (fun i => (fun _ _ => False))) (X' := (fun i => (fun _ _ => False))) (R := s48_R K) (s := s) (w := w) (p := s48_p1 K (s 7) (s 8) (s 9) (s 16) w) (q := s48_p1_den K s w) tr_id (fun i => tr_id) (by kernel_rfl) (by kernel_rfl) @h
def s48_p2 (K : Value → World → Prop) (B1 : List Value → World → Prop) (t5 t7 t8 t9 t11 t16 t17 : Value) (w : World) : Prop :=
  boI .neq t17 (.int .u64 0) (fun t136 w =>
  ifb t136
  (fd 1 t7 (fun t139 w =>
  ld1 t139 (fun t140 w =>
  boI .neq t140 (.int .i64 0) (fun t141 w =>
  gd t141 false (fun K w => K t17 w) (fun t143 w =>
  gd t141 false (fun K w => K t8 w) (fun t144 w =>
  gd t141 false (boI .gtr t143 t144) (fun t145 w =>
  pk t141 (.bool true) t145 (fun t146 w =>
  ifb t146
  (cl Tryd.prog 54 #[t7, (.int .i64 11)] (fun t147 w =>
  K t147 w) w)
  (boI .sub t17 (.int .u64 1) (fun t149 w =>
  cvi .u32 t149 (fun t150 w =>
  boI .quo t150 (.int .u32 64) (fun t153 w =>
  ixs 1 t11 t153 (fun t154 w =>
  ld1 t154 (fun t155 w =>
  boI .rem t150 (.int .u32 64) (fun t157 w =>
  boI .shr t155 t157 (fun t158 w =>
  boI .and t158 (.int .u64 1) (fun t159 w =>
  boI .neq t159 (.int .u64 0) (fun t160 w =>
  ifb t160
  (K (.int .i64 11) w)
  (boI .quo t150 (.int .u32 64) (fun t163 w =>
  ixs 1 t11 t163 (fun t164 w =>
  ld1 t164 (fun t165 w =>
  boI .rem t150 (.int .u32 64) (fun t167 w =>
  boI .shl (.int .u64 1) t167 (fun t168 w =>
  boI .or t165 t168 (fun t169 w =>
  ixs 1 t11 t163 (fun t170 w =>
  st1 t170 t169 (fun w =>
  cl Tryd.prog 57 #[t5, t150] (fun t173 w =>
  cl Tryd.prog 55 #[t7, t173] (fun t174 w =>
  boI .add t16 (.int .u64 1) (fun t138 w =>
  B1 [t5, t7, t8, t9, t11, t138, t174] w) w) w) w) w) w) w) w) w) w) w) w)) w) w) w) w) w) w) w) w) w)) w) w) w) w) w) w) w)
  (s48_p1 K t7 t8 t9 t16 w)) w
def s48_p2_den (K : Value → World → Prop) (M1 : (Nat → Value) → World → Prop) : (Nat → Value) → World → Prop := denL Tryd.prog [(cd (Tryd.f48.body.getD .skip) [1, 1, 1, 1, 1, 1, 1, 1, 1, 1, 1, 1, 1, 1, 1, 0, 1, 0, 0, 0, 0]), (cd (Tryd.f48.body.getD .skip) [1, 1, 1, 1, 1, 1, 1, 1, 1, 1, 1, 1, 1, 1, 1, 0, 1, 0, 0, 0, 1]), (cd (Tryd.f48.body.getD .skip) [1, 1, 1, 1, 1, 1, 1, 1, 1, 1, 1, 1, 1, 1, 1, 0, 1, 0, 0, 1, 0]), (cd (Tryd.f48.body.getD .skip) [1, 1, 1, 1, 1, 1, 1, 1, 1, 1, 1, 1, 1, 1, 1, 0, 1, 0, 0, 1, 1])] M1 (fun i => (bif Nat.beq i 2 then (s48_p1_den K) else (fun _ _ => False))) (s48_R K)
theorem s48_p2_ok (K : Value → World → Prop) (B1 : List Value → World → Prop) (s : Nat → Value) (w : World) (h : s48_p2 K B1 (s 5) (s 7) (s 8) (s 9) (s 11) (s 16) (s 17) w) : Tr (s48_p2_den K (fun s w => B1 [s 5, s 7, s 8, s 9, s 11, s 16, s 17] w) s w) :=
  tr_simple (P := Tryd.prog) (codes := [(cd (Tryd.f48.body.getD .skip) [1, 1, 1, 1, 1, 1, 1, 1, 1, 1, 1, 1, 1, 1, 1, 0, 1, 0, 0, 0, 0]), (cd (Tryd.f48.body.getD .skip) [1, 1, 1, 1, 1, 1, 1, 1, 1, 1, 1, 1, 1, 1, 1, 0, 1, 0, 0, 0, 1]), (cd (Tryd.f48.body.getD .skip) [1, 1, 1, 1, 1, 1, 1, 1, 1, 1, 1, 1, 1, 1, 1, 0, 1, 0, 0, 1, 0]), (cd (Tryd.f48.body.getD .skip) [1, 1, 1, 1, 1, 1, 1, 1, 1, 1, 1, 1, 1, 1, 1, 0, 1, 0, 0, 1, 1])]) (N := (fun s w => B1 [s 5, s 7, s 8, s 9, s 11, s 16, s 17] w)) (N' := (fun s w => B1 [s 5, s 7, s 8, s 9, s 11, s 16, s 17] w)) (X := (fun i => (bif Nat.beq i 2 then (fun s w => s48_p1 K (s 7) (s 8) (s 9) (s 16) w) else (fun _ _ => False)))) (X' := (fun i => (bif Nat.beq i 2 then (s48_p1_den K) else (fun _ _ => False)))) (R := s48_R K) (s := s) (w := w) (p := s48_p2 K B1 (s 5) (s 7) (s 8) (s 9) (s 11) (s 16) (s 17) w) (q := s48_p2_den K (fun s w => B1 [s 5, s 7, s 8, s 9, s 11, s 16, s 17] w) s w) tr_id (fun i => (tr_bif (fun s w h => s48_p1_ok K s w @h) tr_id)) (by kernel_rfl) (by kernel_rfl) @h
def s48_p3_F (K : Value → World → Prop) (B1 : List Value → World → Prop) (l : List Value) (w : World) : Prop :=
  match l with
  | [t5, t7, t8, t9, t11, t16, t17] => s48_p2 K B1 t5 t7 t8 t9 t11 t16 t17 w
  | _ => False
theorem s48_p3_Fe {K : Value → World → Prop} {B1 : List Value → World → Prop} {t5 t7 t8 t9 t11 t16 t17 : Value} {w : World} : s48_p3_F K B1 [t5, t7, t8, t9, t11, t16, t17] w = s48_p2 K B1 t5 t7 t8 t9 t11 t16 t17 w := by kernel_rfl
def s48_p3 (K : Value → World → Prop) (t5 t7 t8 t9 t11 t16 t17 : Value) (w : World) : Prop :=
  LoopL (s48_p3_F K) [t5, t7, t8, t9, t11, t16, t17] w
def s48_p3_den (K : Value → World → Prop) : (Nat → Value) → World → Prop := fun s w => LoopP (fun M1 s w => s48_p2_den K M1 s w) s w
theorem s48_p3_ok (K : Value → World → Prop) (s : Nat → Value) (w : World) (h : s48_p3 K (s 5) (s 7) (s 8) (s 9) (s 11) (s 16) (s 17) w) : Tr (s48_p3_den K s w) :=
  tr_loop (G := fun N' s w => s48_p2_den K N' s w) (F := s48_p3_F K) (sel := fun s => [s 5, s 7, s 8, s 9, s 11, s 16, s 17]) (s := s) (w := w) (p := s48_p3 K (s 5) (s 7) (s 8) (s 9) (s 11) (s 16) (s 17) w) (q := s48_p3_den K s w) (fun B s w h => s48_p2_ok K B s w @h) (by kernel_rfl) (by kernel_rfl) @h
def s48_p4 (K : Value → World → Prop) (t5 t7 t8 t9 t11 t12 : Value) (w : World) : Prop :=
  nck t5 (fun t101 w =>
  fd 5 t101 (fun t102 w =>
  ld1 t102 (fun t103 w =>
  boI .rem t103 (.int .u32 64) (fun t104 w =>
  boI .neq t104 (.int .u32 0) (fun t106 w =>
  gd t106 true (fun K w => K t11 w) (fun t108 w =>
  gd t106 true (fun K w => K t11 w) (fun t109 w =>
  gd t106 true (lnS t109) (fun t110 w =>
  gd t106 true (boI .sub t110 (.int .i64 1)) (fun t111 w =>
  gd t106 true (ixs 1 t108 t111) (fun t112 w =>
  gd t106 true (ld1 t112) (fun t113 w =>
  gd t106 true (fun K w => K t104 w) (fun t114 w =>
  gd t106 true (boI .shr t113 t114) (fun t115 w =>
  gd t106 true (boI .neq t115 (.int .u64 0)) (fun t116 w =>
  pk t106 t116 (.bool false) (fun t117 w =>
  ifb t117
  (cl Tryd.prog 54 #[t7, (.int .i64 11)] (fun t118 w =>
  K t118 w) w)
  (fd 1 t7 (fun t119 w =>
  ld1 t119 (fun t120 w =>
  boI .neq t120 (.int .i64 0) (fun t121 w =>
  gd t121 false (fun K w => K t12 w) (fun t123 w =>
  gd t121 false (cvi .u64 t123) (fun t124 w =>
  gd t121 false (fun K w => K t9 w) (fun t125 w =>
  gd t121 false (boI .neq t124 t125) (fun t126 w =>
  pk t121 (.bool true) t126 (fun t127 w =>
  ifb t127
  (cl Tryd.prog 54 #[t7, (.int .i64 11)] (fun t128 w =>
  K t128 w) w)
  (nck t5 (fun t130 w =>
  fd 0 t130 (fun t131 w =>
  ld1 t131 (fun t132 w =>
  boI .add t132 (.int .u32 1) (fun t133 w =>
  cl Tryd.prog 55 #[t7, t133] (fun t134 w =>
  s48_p3 K t5 t7 t8 t9 t11 (.int .u64 0) t134 w) w) w) w) w) w)) w) w) w) w) w) w) w) w)) w) w) w) w) w) w) w) w) w) w) w) w) w) w) w
def s48_p4_den (K : Value → World → Prop) : (Nat → Value) → World → Prop := denL Tryd.prog [(cd (Tryd.f48.body.getD .skip) [1, 1, 1, 1, 1, 1, 1, 1, 1, 1, 1, 1, 0, 0]), (cd (Tryd.f48.body.getD .skip) [1, 1, 1, 1, 1, 1, 1, 1, 1, 1, 1, 1, 0, 1, 0]), (cd (Tryd.f48.body.getD .skip) [1, 1, 1, 1, 1, 1, 1, 1, 1, 1, 1, 1, 0, 1, 1]), (cd (Tryd.f48.body.getD .skip) [1, 1, 1, 1, 1, 1, 1, 1, 1, 1, 1, 1, 1, 0, 0]), (cd (Tryd.f48.body.getD .skip) [1, 1, 1, 1, 1, 1, 1, 1, 1, 1, 1, 1, 1, 0, 1]), (cd (Tryd.f48.body.getD .skip) [1, 1, 1, 1, 1, 1, 1, 1, 1, 1, 1, 1, 1, 1, 0]), (cd (Tryd.f48.body.getD .skip) [1, 1, 1, 1, 1, 1, 1, 1, 1, 1, 1, 1, 1, 1, 1, 0, 0])] (s48_p3_den K) (fun i => (fun _ _ => False)) (s48_R K)
theorem s48_p4_ok (K : Value → World → Prop) (s : Nat → Value) (w : World) (h : s48_p4 K (s 5) (s 7) (s 8) (s 9) (s 11) (s 12) w) : Tr (s48_p4_den K s w) :=
  tr_simple (P := Tryd.prog) (codes := [(cd (Tryd.f48.body.getD .skip) [1, 1, 1, 1, 1, 1, 1, 1, 1, 1, 1, 1, 0, 0]), (cd (Tryd.f48.body.getD .skip) [1, 1, 1, 1, 1, 1, 1, 1, 1, 1, 1, 1, 0, 1, 0]), (cd (Tryd.f48.body.getD .skip) [1, 1, 1, 1, 1, 1, 1, 1, 1, 1, 1, 1, 0, 1, 1]), (cd (Tryd.f48.body.getD .skip) [1, 1, 1, 1, 1, 1, 1, 1, 1, 1, 1, 1, 1, 0, 0]), (cd (Tryd.f48.body.getD .skip) [1, 1, 1, 1, 1, 1, 1, 1, 1, 1, 1, 1, 1, 0, 1]), (cd (Tryd.f48.body.getD .skip) [1, 1, 1, 1, 1, 1, 1, 1, 1, 1, 1, 1, 1, 1, 0]), (cd (Tryd.f48.body.getD .skip) [1, 1, 1, 1, 1, 1, 1, 1, 1, 1, 1, 1, 1, 1, 1, 0, 0])]) (N := (fun s w => s48_p3 K (s 5) (s 7) (s 8) (s 9) (s 11) (s 16) (s 17) w)) (N' := (s48_p3_den K)) (X := (fun i => (fun _ _ => False))) (X' := (fun i => (fun _ _ => False))) (R := s48_R K) (s := s) (w := w) (p := s48_p4 K (s 5) (s 7) (s 8) (s 9) (s 11) (s 12) w) (q := s48_p4_den K s w) (fun s w h => s48_p3_ok K s w @h) (fun i => tr_id) (by kernel_rfl) (by kernel_rfl) @h
def s48_p5 (K : Value → World → Prop) (B1 : List Value → World → Prop) (t5 t7 t8 t9 t11 t12 t13 : Value) (w : World) : Prop :=
  nck t5 (fun t84 w =>
  fd 2 t84 (fun t85 w =>
  ld1 t85 (fun t86 w =>
  boI .lss t13 t86 (fun t87 w =>
  ifb t87
  (cl Tryd.prog 55 #[t7, t13] (fun t91 w =>
  bsq 71 [(.int .u64 0)] 1 [(some (0, 1), t91)] (fun t94 w =>
  apq 71 [(.int .u64 0)] 8 t11 t94 (fun t95 w =>
  cl Tryd.prog 61 #[t91] (fun t98 w =>
  boI .add t12 t98 (fun t99 w =>
  boI .add t13 (.int .u32 1) (fun t89 w =>
  B1 [t5, t7, t8, t9, t95, t99, t89] w) w) w) w) w) w) w)
  (s48_p4 K t5 t7 t8 t9 t11 t12 w)) w) w) w) w
def s48_p5_den (K : Value → World → Prop) (M1 : (Nat → Value) → World → Prop) : (Nat → Value) → World → Prop := denL Tryd.prog [(cd (Tryd.f48.body.getD .skip) [1, 1, 1, 1, 1, 1, 1, 1, 1, 1, 1, 0, 1, 0, 0, 0, 0]), (cd (Tryd.f48.body.getD .skip) [1, 1, 1, 1, 1, 1, 1, 1, 1, 1, 1, 0, 1, 0, 0, 0, 1]), (cd (Tryd.f48.body.getD .skip) [1, 1, 1, 1, 1, 1, 1, 1, 1, 1, 1, 0, 1, 0, 0, 1, 0]), (cd (Tryd.f48.body.getD .skip) [1, 1, 1, 1, 1, 1, 1, 1, 1, 1, 1, 0, 1, 0, 0, 1, 1])] M1 (fun i => (bif Nat.beq i 0 then (s48_p4_den K) else (fun _ _ => False))) (s48_R K)
theorem s48_p5_ok (K : Value → World → Prop) (B1 : List Value → World → Prop) (s : Nat → Value) (w : World) (h : s48_p5 K B1 (s 5) (s 7) (s 8) (s 9) (s 11) (s 12) (s 13) w) : Tr (s48_p5_den K (fun s w => B1 [s 5, s 7, s 8, s 9, s 11, s 12, s 13] w) s w) :=
  tr_simple (P := Tryd.prog) (codes := [(cd (Tryd.f48.body.getD .skip) [1, 1, 1, 1, 1, 1, 1, 1, 1, 1, 1, 0, 1, 0, 0, 0, 0]), (cd (Tryd.f48.body.getD .skip) [1, 1, 1, 1, 1, 1, 1, 1, 1, 1, 1, 0, 1, 0, 0, 0, 1]), (cd (Tryd.f48.body.getD .skip) [1, 1, 1, 1, 1, 1, 1, 1, 1, 1, 1, 0, 1, 0, 0, 1, 0]), (cd (Tryd.f48.body.getD .skip) [1, 1, 1, 1, 1, 1, 1, 1, 1, 1, 1, 0, 1, 0, 0, 1, 1])]) (N := (fun s w => B1 [s 5, s 7, s 8, s 9, s 11, s 12, s 13] w)) (N' := (fun s w => B1 [s 5, s 7, s 8, s 9, s 11, s 12, s 13] w)) (X := (fun i => (bif Nat.beq i 0 then (fun s w => s48_p4 K (s 5) (s 7) (s 8) (s 9) (s 11) (s 12) w) else (fun _ _ => False)))) (X' := (fun i => (bif Nat.beq i 0 then (s48_p4_den K) else (fun _ _ => False)))) (R := s48_R K) (s := s) (w := w) (p := s48_p5 K B1 (s 5) (s 7) (s 8) (s 9) (s 11) (s 12) (s 13) w) (q := s48_p5_den K (fun s w => B1 [s 5, s 7, s 8, s 9, s 11, s 12, s 13] w) s w) tr_id (fun i => (tr_bif (fun s w h => s48_p4_ok K s w @h) tr_id)) (by kernel_rfl) (by kernel_rfl) @h
def s48_p6_F (K : Value → World → Prop) (B1 : List Value → World → Prop) (l : List Value) (w : World) : Prop :=
  match l with
  | [t5, t7, t8, t9, t11, t12, t13] => s48_p5 K B1 t5 t7 t8 t9 t11 t12 t13 w
  | _ => False
theorem s48_p6_Fe {K : Value → World → Prop} {B1 : List Value → World → Prop} {t5 t7 t8 t9 t11 t12 t13 : Value} {w : World} : s48_p6_F K B1 [t5, t7, t8, t9, t11, t12, t13] w = s48_p5 K B1 t5 t7 t8 t9 t11 t12 t13 w := by kernel_rfl
def s48_p6 (K : Value → World → Prop) (t5 t7 t8 t9 t11 t12 t13 : Value) (w : World) : Prop :=
  LoopL (s48_p6_F K) [t5, t7, t8, t9, t11, t12, t13] w
def s48_p6_den (K : Value → World → Prop) : (Nat → Value) → World → Prop := fun s w => LoopP (fun M1 s w => s48_p5_den K M1 s w) s w
theorem s48_p6_ok (K : Value → World → Prop) (s : Nat → Value) (w : World) (h : s48_p6 K (s 5) (s 7) (s 8) (s 9) (s 11) (s 12) (s 13) w) : Tr (s48_p6_den K s w) :=
  tr_loop (G := fun N' s w => s48_p5_den K N' s w) (F := s48_p6_F K) (sel := fun s => [s 5, s 7, s 8, s 9, s 11, s 12, s 13]) (s := s) (w := w) (p := s48_p6 K (s 5) (s 7) (s 8) (s 9) (s 11) (s 12) (s 13) w) (q := s48_p6_den K s w) (fun B s w h => s48_p5_ok K B s w @h) (by kernel_rfl) (by kernel_rfl) @h
def s48_p7 (K : Value → World → Prop) (t5 t7 t8 t9 t11 : Value) (w : World) : Prop :=
  nck t5 (fun t79 w =>
  fd 1 t79 (fun t80 w =>
  ld1 t80 (fun t81 w =>
  s48_p6 K t5 t7 t8 t9 t11 (.int .i64 0) t81 w) w) w) w
def s48_p7_den (K : Value → World → Prop) : (Nat → Value) → World → Prop := denL Tryd.prog [(cd (Tryd.f48.body.getD .skip) [1, 1, 1, 1, 1, 1, 1, 1, 1, 1, 0]), (cd (Tryd.f48.body.getD .skip) [1, 1, 1, 1, 1, 1, 1, 1, 1, 1, 1, 0, 0])] (s48_p6_den K) (fun i => (fun _ _ => False)) (s48_R K)
theorem s48_p7_ok (K : Value → World → Prop) (s : Nat → Value) (w : World) (h : s48_p7 K (s 5) (s 7) (s 8) (s 9) (s 11) w) : Tr (s48_p7_den K s w) :=
  tr_simple (P := Tryd.prog) (codes := [(cd (Tryd.f48.body.getD .skip) [1, 1, 1, 1, 1, 1, 1, 1, 1, 1, 0]), (cd (Tryd.f48.body.getD .skip) [1, 1, 1, 1, 1, 1, 1, 1, 1, 1, 1, 0, 0])]) (N := (fun s w => s48_p6 K (s 5) (s 7) (s 8) (s 9) (s 11) (s 12) (s 13) w)) (N' := (s48_p6_den K)) (X := (fun i => (fun _ _ => False))) (X' := (fun i => (fun _ _ => False))) (R := s48_R K) (s := s) (w := w) (p := s48_p7 K (s 5) (s 7) (s 8) (s 9) (s 11) w) (q := s48_p7_den K s w) (fun s w h => s48_p6_ok K s w @h) (fun i => tr_id) (by kernel_rfl) (by kernel_rfl) @h
def s48_p8_d (K : Value → World → Prop) (t5 t7 t8 t9 : Value) (w0 w : World) : Prop :=
  nck t5 (fun t69 _ =>
  fd 2 t69 (fun t70 _ =>
  ld1 t70 (fun t71 _ =>
  nck t5 (fun t73 _ =>
  fd 1 t73 (fun t74 _ =>
  ld1 t74 (fun t75 _ =>
  boI .sub t71 t75 (fun t76 _ =>
  mks 71 [(.int .u64 0)] 8 (.int .i64 0) t76 (fun t77 w =>
  s48_p7 K t5 t7 t8 t9 t77 w) w) w0) w0) w0) w0) w0) w0) w0
def s48_p8 (K : Value → World → Prop) (t5 t7 t8 t9 : Value) (w : World) : Prop := s48_p8_d K t5 t7 t8 t9 (drw w) (drw w)
def s48_p8_den (K : Value → World → Prop) : (Nat → Value) → World → Prop := denL Tryd.prog [(cd (Tryd.f48.body.getD .skip) [1, 1, 1, 1, 1, 1, 1, 1, 1, 0])] (s48_p7_den K) (fun i => (fun _ _ => False)) (s48_R K)
theorem s48_p8_ok (K : Value → World → Prop) (s : Nat → Value) (w : World) (h : s48_p8 K (s 5) (s 7) (s 8) (s 9) w) : Tr (s48_p8_den K s w) :=
  tr_draw (P := Tryd.prog) (ops := (ro (cd (Tryd.f48.body.getD .skip) [1, 1, 1, 1, 1, 1, 1, 1, 1, 0]))) (ms := [0, 1, 3, 7, 0, 16, 48, 112, 255, 511, 1023]) (cs := [0, 1, 2, 3, 4, 5, 6, 7, 8]) (N := (fun s w => s48_p7 K (s 5) (s 7) (s 8) (s 9) (s 11) w)) (N' := (s48_p7_den K)) (s := s) (w := w) (p := s48_p8 K (s 5) (s 7) (s 8) (s 9) w) (q := s48_p8_den K s w) (by kernel_rfl) (by kernel_rfl) (fun s w h => s48_p7_ok K s w @h) (by kernel_rfl) (by kernel_rfl) @h
def s48_p9 (K : Value → World → Prop) (t0 t1 : Value) (w : World) : Prop :=
  cl Tryd.prog 46 #[t0, t1] (fun t22 w =>
  exq t22 0 (fun t23 w =>
  exq t22 1 (fun t24 w =>
  boI .neq t24 (.int .i64 0) (fun t26 w =>
  ifb t26
  (K t24 w)
  (nck t0 (fun t29 w =>
  fd 0 t29 (fun t30 w =>
  ld1 t30 (fun t31 w =>
  bdq [(.pointer none), (.int .i64 0)] [(some (0, 1), t31)] (fun t32 w =>
  nw 121 #[(.pointer none), (.int .i64 0)] (fun t7 w =>
  stn 2 t7 t32 (fun w =>
  cl Tryd.prog 53 #[t7, t23] (fun t34 w =>
  un .not t34 (fun t35 w =>
  ifb t35
  (cl Tryd.prog 54 #[t7, (.int .i64 11)] (fun t36 w =>
  K t36 w) w)
  (nck t23 (fun t38 w =>
  fd 5 t38 (fun t39 w =>
  ld1 t39 (fun t40 w =>
  cvi .u64 t40 (fun t41 w =>
  nck t23 (fun t43 w =>
  fd 0 t43 (fun t44 w =>
  ld1 t44 (fun t45 w =>
  boI .add t45 (.int .u32 2) (fun t46 w =>
  cl Tryd.prog 55 #[t7, t46] (fun t47 w =>
  nck t23 (fun t49 w =>
  fd 0 t49 (fun t50 w =>
  ld1 t50 (fun t51 w =>
  boI .add t51 (.int .u32 3) (fun t52 w =>
  cl Tryd.prog 55 #[t7, t52] (fun t53 w =>
  fd 1 t7 (fun t54 w =>
  ld1 t54 (fun t55 w =>
  boI .neq t55 (.int .i64 0) (fun t56 w =>
  gd t56 false (fun K w => K t53 w) (fun t58 w =>
  gd t56 false (fun K w => K t41 w) (fun t59 w =>
  gd t56 false (boI .gtr t58 t59) (fun t60 w =>
  pk t56 (.bool true) t60 (fun t61 w =>
  gd t61 false (fun K w => K t47 w) (fun t63 w =>
  gd t61 false (fun K w => K t53 w) (fun t64 w =>
  gd t61 false (boI .gtr t63 t64) (fun t65 w =>
  pk t61 (.bool true) t65 (fun t66 w =>
  ifb t66
  (cl Tryd.prog 54 #[t7, (.int .i64 11)] (fun t67 w =>
  K t67 w) w)
  (s48_p8 K t23 t7 t41 t47 w)) w) w) w) w) w) w) w) w) w) w) w) w) w) w) w) w) w) w) w) w) w) w) w) w) w)) w) w) w) w) w) w) w) w)) w) w) w) w
def s48_p9_den (K : Value → World → Prop) : (Nat → Value) → World → Prop := denL Tryd.prog [(cd (Tryd.f48.body.getD .skip) [0]), (cd (Tryd.f48.body.getD .skip) [1, 0]), (cd (Tryd.f48.body.getD .skip) [1, 1, 0, 0]), (cd (Tryd.f48.body.getD .skip) [1, 1, 0, 1]), (cd (Tryd.f48.body.getD .skip) [1, 1, 1, 0]), (cd (Tryd.f48.body.getD .skip) [1, 1, 1, 1, 0, 0]), (cd (Tryd.f48.body.getD .skip) [1, 1, 1, 1, 0, 1]), (cd (Tryd.f48.body.getD .skip) [1, 1, 1, 1, 1, 0]), (cd (Tryd.f48.body.getD .skip) [1, 1, 1, 1, 1, 1, 0]), (cd (Tryd.f48.body.getD .skip) [1, 1, 1, 1, 1, 1, 1, 0]), (cd (Tryd.f48.body.getD .skip) [1, 1, 1, 1, 1, 1, 1, 1, 0, 0]), (cd (Tryd.f48.body.getD .skip) [1, 1, 1, 1, 1, 1, 1, 1, 0, 1])] (s48_p8_den K) (fun i => (fun _ _ => False)) (s48_R K)
theorem s48_p9_ok (K : Value → World → Prop) (s : Nat → Value) (w : World) (h : s48_p9 K (s 0) (s 1) w) : Tr (s48_p9_den K s w) :=
  tr_simple (P := Tryd.prog) (codes := [(cd (Tryd.f48.body.getD .skip) [0]), (cd (Tryd.f48.body.getD .skip) [1, 0]), (cd (Tryd.f48.body.getD .skip) [1, 1, 0, 0]), (cd (Tryd.f48.body.getD .skip) [1, 1, 0, 1]), (cd (Tryd.f48.body.getD .skip) [1, 1, 1, 0]), (cd (Tryd.f48.body.getD .skip) [1, 1, 1, 1, 0, 0]), (cd (Tryd.f48.body.getD .skip) [1, 1, 1, 1, 0, 1]), (cd (Tryd.f48.body.getD .skip) [1, 1, 1, 1, 1, 0]), (cd (Tryd.f48.body.getD .skip) [1, 1, 1, 1, 1, 1, 0]), (cd (Tryd.f48.body.getD .skip) [1, 1, 1, 1, 1, 1, 1, 0]), (cd (Tryd.f48.body.getD .skip) [1, 1, 1, 1, 1, 1, 1, 1, 0, 0]), (cd (Tryd.f48.body.getD .skip) [1, 1, 1, 1, 1, 1, 1, 1, 0, 1])]) (N := (fun s w => s48_p8 K (s 5) (s 7) (s 8) (s 9) w)) (N' := (s48_p8_den K)) (X := (fun i => (fun _ _ => False))) (X' := (fun i => (fun _ _ => False))) (R := s48_R K) (s := s) (w := w) (p := s48_p9 K (s 0) (s 1) w) (q := s48_p9_den K s w) (fun s w h => s48_p8_ok K s w @h) (fun i => tr_id) (by kernel_rfl) (by kernel_rfl) @h
/-- the call, from the text -/
theorem c48 (t0 t1 : Value) {K : Value → World → Prop} {w : World} (h : s48_p9 K t0 t1 w) : cl Tryd.prog 48 #[t0, t1] K w :=
  calls_of_tr (c := (Tryd.f48.body.getD .skip)) (fn := Tryd.f48) (q := s48_p9_den K (st0 #[t0, t1]) w) Tryd.func48 (by kernel_rfl) (by kernel_rfl) (Nat.le_of_ble_eq_true (by kernel_rfl)) (by kernel_rfl) (by kernel_rfl) (s48_p9_ok K (st0 #[t0, t1]) w @h)

/-! ### function 49 : e2e.pool.Footprint -/
def s49_R (K : Value → World → Prop) (s : Nat → Value) (w : World) : Prop := retv Tryd.prog s Tryd.f49.results.toList (fun vs => K (pack vs) w) w
def s49_p1 (K : Value → World → Prop) (t0 t1 : Value) (w : World) : Prop :=
  cl Tryd.prog 50 #[t1] (fun t6 w =>
  boI .add (.int .u64 5) t6 (fun t7 w =>
  cvi .u64 t1 (fun t9 w =>
  cvi .u64 t0 (fun t11 w =>
  boI .mul t9 t11 (fun t12 w =>
  boI .add t7 t12 (fun t13 w =>
  K t13 w) w) w) w) w) w) w
def s49_p1_den (K : Value → World → Prop) : (Nat → Value) → World → Prop := denL Tryd.prog [(cd (Tryd.f49.body.getD .skip) [0]), (cd (Tryd.f49.body.getD .skip) [1, 0]), (cd (Tryd.f49.body.getD .skip) [1, 1])] (fun _ _ => False) (fun i => (fun _ _ => False)) (s49_R K)
theorem s49_p1_ok (K : Value → World → Prop) (s : Nat → Value) (w : World) (h : s49_p1 K (s 0) (s 1) w) : Tr (s49_p1_den K s w) :=
  tr_simple (P := Tryd.prog) (codes := [(cd (Tryd.f49.body.getD .skip) [0]), (cd (Tryd.f49.body.getD .skip) [1, 0]), (cd (Tryd.f49.body.getD .skip) [1, 1])]) (N := (fun _ _ => False)) (N' := (fun _ _ => False)) (X := (fun i => (fun _ _ => False))) (X' := (fun i => (fun _ _ => False))) (R := s49_R K) (s := s) (w := w) (p := s49_p1 K (s 0) (s 1) w) (q := s49_p1_den K s w) tr_id (fun i => tr_id) (by kernel_rfl) (by kernel_rfl) @h
/-- the call, from the text -/
theorem c49 (t0 t1 : Value) {K : Value → World → Prop} {w : World} (h : s49_p1 K t0 t1 w) : cl Tryd.prog 49 #[t0, t1] K w :=
  calls_of_tr (c := (Tryd.f49.body.getD .skip)) (fn := Tryd.f49) (q := s49_p1_den K (st0 #[t0, t1]) w) Tryd.func49 (by kernel_rfl) (by kernel_rfl) (Nat.le_of_ble_eq_true (by kernel_rfl)) (by kernel_rfl) (by kernel_rfl) (s49_p1_ok K (st0 #[t0, t1]) w @h)

/-! ### function 50 : e2e.pool.mapWords -/
def s50_R (K : Value → World → Prop) (s : Nat → Value) (w : World) : Prop := retv Tryd.prog s Tryd.f50.results.toList (fun vs => K (pack vs) w) w
def s50_p1 (K : Value → World → Prop) (t0 : Value) (w : World) : Prop :=
  cvi .u64 t0 (fun t4 w =>
  boI .add t4 (.int .u64 64) (fun t5 w =>
  boI .sub t5 (.int .u64 1) (fun t6 w =>
  boI .quo t6 (.int .u64 64) (fun t7 w =>
  K t7 w) w) w) w) w
def s50_p1_den (K : Value → World → Prop) : (Nat → Value) → World → Prop := denL Tryd.prog [(cd (Tryd.f50.body.getD .skip) [0]), (cd (Tryd.f50.body.getD .skip) [1, 0]), (cd (Tryd.f50.body.getD .skip) [1, 1])] (fun _ _ => False) (fun i => (fun _ _ => False)) (s50_R K)
theorem s50_p1_ok (K : Value → World → Prop) (s : Nat → Value) (w : World) (h : s50_p1 K (s 0) w) : Tr (s50_p1_den K s w) :=
  tr_simple (P := Tryd.prog) (codes := [(cd (Tryd.f50.body.getD .skip) [0]), (cd (Tryd.f50.body.getD .skip) [1, 0]), (cd (Tryd.f50.body.getD .skip) [1, 1])]) (N := (fun _ _ => False)) (N' := (fun _ _ => False)) (X := (fun i => (fun _ _ => False))) (X' := (fun i => (fun _ _ => False))) (R := s50_R K) (s := s) (w := w) (p := s50_p1 K (s 0) w) (q := s50_p1_den K s w) tr_id (fun i => tr_id) (by kernel_rfl) (by kernel_rfl) @h
/-- the call, from the text -/
theorem c50 (t0 : Value) {K : Value → World → Prop} {w : World} (h : s50_p1 K t0 w) : cl Tryd.prog 50 #[t0] K w :=
  calls_of_tr (c := (Tryd.f50.body.getD .skip)) (fn := Tryd.f50) (q := s50_p1_den K (st0 #[t0]) w) Tryd.func50 (by kernel_rfl) (by kernel_rfl) (Nat.le_of_ble_eq_true (by kernel_rfl)) (by kernel_rfl) (by kernel_rfl) (s50_p1_ok K (st0 #[t0]) w @h)

/-! ### function 51 : (*e2e.pool.Table).format -/
def s51_R (K : Value → World → Prop) (s : Nat → Value) (w : World) : Prop := retv Tryd.prog s Tryd.f51.results.toList (fun vs => K (pack vs) w) w
def s51_p1 (K : Value → World → Prop) (t5 : Value) (w : World) : Prop :=
  fd 1 t5 (fun t83 w =>
  ld1 t83 (fun t84 w =>
  K t84 w) w) w
def s51_p1_den (K : Value → World → Prop) : (Nat → Value) → World → Prop := denL Tryd.prog [(cd (Tryd.f51.body.getD .skip) [1, 1, 1, 1, 1, 1, 1, 1, 1, 1, 0]), (cd (Tryd.f51.body.getD .skip) [1, 1, 1, 1, 1, 1, 1, 1, 1, 1, 1])] (fun _ _ => False) (fun i => (fun _ _ => False)) (s51_R K)
theorem s51_p1_ok (K : Value → World → Prop) (s : Nat → Value) (w : World) (h : s51_p1 K (s 5) w) : Tr (s51_p1_den K s w) :=
  tr_simple (P := Tryd.prog) (codes := [(cd (Tryd.f51.body.getD .skip) [1, 1, 1, 1, 1, 1, 1, 1, 1, 1, 0]), (cd (Tryd.f51.body.getD .skip) [1, 1, 1, 1, 1, 1, 1, 1, 1, 1, 1])]) (N := (fun _ _ => False)) (N' := (fun _ _ => False)) (X := (fun i => (fun _ _ => False))) (X' := (fun i => (fun _ _ => False))) (R := s51_R K) (s := s) (w := w) (p := s51_p1 K (s 5) w) (q := s51_p1_den K s w) tr_id (fun i => tr_id) (by kernel_rfl) (by kernel_rfl) @h
def s51_p2_d (K : Value → World → Prop) (t1 t5 : Value) (w0 w : World) : Prop :=
  nck t1 (fun t76 _ =>
  fd 0 t76 (fun t77 _ =>
  ld1 t77 (fun t78 _ =>
  boI .add t78 (.int .u32 0) (fun t79 _ =>
  cl Tryd.prog 62 #[t1] (fun t81 w =>
  Below w0.heap.size w0 w ∧
  cl Tryd.prog 56 #[t5, t79, t81] (fun t82 w =>
  s51_p1 K t5 w) w) w) w0) w0) w0) w0
def s51_p2 (K : Value → World → Prop) (t1 t5 : Value) (w : World) : Prop := s51_p2_d K t1 t5 (drw w) (drw w)
def s51_p2_den (K : Value → World → Prop) : (Nat → Value) → World → Prop := denL Tryd.prog [(cd (Tryd.f51.body.getD .skip) [1, 1, 1, 1, 1, 1, 1, 1, 1, 0])] (s51_p1_den K) (fun i => (fun _ _ => False)) (s51_R K)
theorem s51_p2_ok (K : Value → World → Prop) (s : Nat → Value) (w : World) (h : s51_p2 K (s 1) (s 5) w) : Tr (s51_p2_den K s w) :=
  tr_draw (P := Tryd.prog) (ops := (ro (cd (Tryd.f51.body.getD .skip) [1, 1, 1, 1, 1, 1, 1, 1, 1, 0]))) (ms := [0, 1, 3, 7, 15, 0, 32, 127]) (cs := [0, 1, 2, 3, 4, 5]) (N := (fun s w => s51_p1 K (s 5) w)) (N' := (s51_p1_den K)) (s := s) (w := w) (p := s51_p2 K (s 1) (s 5) w) (q := s51_p2_den K s w) (by kernel_rfl) (by kernel_rfl) (fun s w h => s51_p1_ok K s w @h) (by kernel_rfl) (by kernel_rfl) @h
def s51_p3 (K : Value → World → Prop) (t1 t5 : Value) (w : World) : Prop :=
  nck t1 (fun t69 w =>
  fd 5 t69 (fun t70 w =>
  ld1 t70 (fun t71 w =>
  boI .sub t71 (.int .u32 1) (fun t72 w =>
  cl Tryd.prog 57 #[t1, t72] (fun t73 w =>
  cl Tryd.prog 56 #[t5, t73, (.int .u64 0)] (fun t74 w =>
  s51_p2 K t1 t5 w) w) w) w) w) w) w
def s51_p3_den (K : Value → World → Prop) : (Nat → Value) → World → Prop := denL Tryd.prog [(cd (Tryd.f51.body.getD .skip) [1, 1, 1, 1, 1, 1, 1, 1, 0])] (s51_p2_den K) (fun i => (fun _ _ => False)) (s51_R K)
theorem s51_p3_ok (K : Value → World → Prop) (s : Nat → Value) (w : World) (h : s51_p3 K (s 1) (s 5) w) : Tr (s51_p3_den K s w) :=
  tr_simple (P := Tryd.prog) (codes := [(cd (Tryd.f51.body.getD .skip) [1, 1, 1, 1, 1, 1, 1, 1, 0])]) (N := (fun s w => s51_p2 K (s 1) (s 5) w)) (N' := (s51_p2_den K)) (X := (fun i => (fun _ _ => False))) (X' := (fun i => (fun _ _ => False))) (R := s51_R K) (s := s) (w := w) (p := s51_p3 K (s 1) (s 5) w) (q := s51_p3_den K s w) (fun s w h => s51_p2_ok K s w @h) (fun i => tr_id) (by kernel_rfl) (by kernel_rfl) @h
def s51_p4 (K : Value → World → Prop) (B1 : List Value → World → Prop) (t1 t5 t7 : Value) (w : World) : Prop :=
  boI .add t7 (.int .u32 1) (fun t52 w =>
  nck t1 (fun t54 w =>
  fd 5 t54 (fun t55 w =>
  ld1 t55 (fun t56 w =>
  boI .lss t52 t56 (fun t57 w =>
  ifb t57
  (cl Tryd.prog 57 #[t1, t7] (fun t62 w =>
  cvi .u64 t7 (fun t64 w =>
  boI .add t64 (.int .u64 2) (fun t65 w =>
  cl Tryd.prog 56 #[t5, t62, t65] (fun t66 w =>
  boI .add t7 (.int .u32 1) (fun t59 w =>
  B1 [t1, t5, t59] w) w) w) w) w) w)
  (s51_p3 K t1 t5 w)) w) w) w) w) w
def s51_p4_den (K : Value → World → Prop) (M1 : (Nat → Value) → World → Prop) : (Nat → Value) → World → Prop := denL Tryd.prog [(cd (Tryd.f51.body.getD .skip) [1, 1, 1, 1, 1, 1, 1, 0, 1, 0, 0, 0, 0]), (cd (Tryd.f51.body.getD .skip) [1, 1, 1, 1, 1, 1, 1, 0, 1, 0, 0, 0, 1]), (cd (Tryd.f51.body.getD .skip) [1, 1, 1, 1, 1, 1, 1, 0, 1, 0, 0, 1, 0]), (cd (Tryd.f51.body.getD .skip) [1, 1, 1, 1, 1, 1, 1, 0, 1, 0, 0, 1, 1])] M1 (fun i => (bif Nat.beq i 2 then (s51_p3_den K) else (fun _ _ => False))) (s51_R K)
theorem s51_p4_ok (K : Value → World → Prop) (B1 : List Value → World → Prop) (s : Nat → Value) (w : World) (h : s51_p4 K B1 (s 1) (s 5) (s 7) w) : Tr (s51_p4_den K (fun s w => B1 [s 1, s 5, s 7] w) s w) :=
  tr_simple (P := Tryd.prog) (codes := [(cd (Tryd.f51.body.getD .skip) [1, 1, 1, 1, 1, 1, 1, 0, 1, 0, 0, 0, 0]), (cd (Tryd.f51.body.getD .skip) [1, 1, 1, 1, 1, 1, 1, 0, 1, 0, 0, 0, 1]), (cd (Tryd.f51.body.getD .skip) [1, 1, 1, 1, 1, 1, 1, 0, 1, 0, 0, 1, 0]), (cd (Tryd.f51.body.getD .skip) [1, 1, 1, 1, 1, 1, 1, 0, 1, 0, 0, 1, 1])]) (N := (fun s w => B1 [s 1, s 5, s 7] w)) (N' := (fun s w => B1 [s 1, s 5, s 7] w)) (X := (fun i => (bif Nat.beq i 2 then (fun s w => s51_p3 K (s 1) (s 5) w) else (fun _ _ => False)))) (X' := (fun i => (bif Nat.beq i 2 then (s51_p3_den K) else (fun _ _ => False)))) (R := s51_R K) (s := s) (w := w) (p := s51_p4 K B1 (s 1) (s 5) (s 7) w) (q := s51_p4_den K (fun s w => B1 [s 1, s 5, s 7] w) s w) tr_id (fun i => (tr_bif (fun s w h => s51_p3_ok K s w @h) tr_id)) (by kernel_rfl) (by kernel_rfl) @h
def s51_p5_F (K : Value → World → Prop) (B1 : List Value → World → Prop) (l : List Value) (w : World) : Prop :=
  match l with
  | [t1, t5, t7] => s51_p4 K B1 t1 t5 t7 w
  | _ => False
theorem s51_p5_Fe {K : Value → World → Prop} {B1 : List Value → World → Prop} {t1 t5 t7 : Value} {w : World} : s51_p5_F K B1 [t1, t5, t7] w = s51_p4 K B1 t1 t5 t7 w := by kernel_rfl
def s51_p5 (K : Value → World → Prop) (t1 t5 t7 : Value) (w : World) : Prop :=
  LoopL (s51_p5_F K) [t1, t5, t7] w
def s51_p5_den (K : Value → World → Prop) : (Nat → Value) → World → Prop := fun s w => LoopP (fun M1 s w => s51_p4_den K M1 s w) s w
theorem s51_p5_ok (K : Value → World → Prop) (s : Nat → Value) (w : World) (h : s51_p5 K (s 1) (s 5) (s 7) w) : Tr (s51_p5_den K s w) :=
  tr_loop (G := fun N' s w => s51_p4_den K N' s w) (F := s51_p5_F K) (sel := fun s => [s 1, s 5, s 7]) (s := s) (w := w) (p := s51_p5 K (s 1) (s 5) (s 7) w) (q := s51_p5_den K s w) (fun B s w h => s51_p4_ok K B s w @h) (by kernel_rfl) (by kernel_rfl) @h
def s51_p6 (K : Value → World → Prop) (t1 t5 : Value) (w : World) : Prop :=
  s51_p5 K t1 t5 (.int .u32 0) w
def s51_p6_den (K : Value → World → Prop) : (Nat → Value) → World → Prop := denL Tryd.prog [(cd (Tryd.f51.body.getD .skip) [1, 1, 1, 1, 1, 1, 1, 0, 0])] (s51_p5_den K) (fun i => (fun _ _ => False)) (s51_R K)
theorem s51_p6_ok (K : Value → World → Prop) (s : Nat → Value) (w : World) (h : s51_p6 K (s 1) (s 5) w) : Tr (s51_p6_den K s w) :=
  tr_simple (P := Tryd.prog) (codes := [(cd (Tryd.f51.body.getD .skip) [1, 1, 1, 1, 1, 1, 1, 0, 0])]) (N := (fun s w => s51_p5 K (s 1) (s 5) (s 7) w)) (N' := (s51_p5_den K)) (X := (fun i => (fun _ _ => False))) (X' := (fun i => (fun _ _ => False))) (R := s51_R K) (s := s) (w := w) (p := s51_p6 K (s 1) (s 5) w) (q := s51_p6_den K s w) (fun s w h => s51_p5_ok K s w @h) (fun i => tr_id) (by kernel_rfl) (by kernel_rfl) @h
def s51_p7 (K : Value → World → Prop) (B1 : List Value → World → Prop) (t1 t5 t6 : Value) (w : World) : Prop :=
  nck t1 (fun t43 w =>
  fd 2 t43 (fun t44 w =>
  ld1 t44 (fun t45 w =>
  boI .lss t6 t45 (fun t46 w =>
  ifb t46
  (cl Tryd.prog 56 #[t5, t6, (.int .u64 0)] (fun t50 w =>
  boI .add t6 (.int .u32 1) (fun t48 w =>
  B1 [t1, t5, t48] w) w) w)
  (s51_p6 K t1 t5 w)) w) w) w) w
def s51_p7_den (K : Value → World → Prop) (M1 : (Nat → Value) → World → Prop) : (Nat → Value) → World → Prop := denL Tryd.prog [(cd (Tryd.f51.body.getD .skip) [1, 1, 1, 1, 1, 1, 0, 1, 0, 0, 0, 0]), (cd (Tryd.f51.body.getD .skip) [1, 1, 1, 1, 1, 1, 0, 1, 0, 0, 0, 1]), (cd (Tryd.f51.body.getD .skip) [1, 1, 1, 1, 1, 1, 0, 1, 0, 0, 1, 0]), (cd (Tryd.f51.body.getD .skip) [1, 1, 1, 1, 1, 1, 0, 1, 0, 0, 1, 1])] M1 (fun i => (bif Nat.beq i 0 then (s51_p6_den K) else (fun _ _ => False))) (s51_R K)
theorem s51_p7_ok (K : Value → World → Prop) (B1 : List Value → World → Prop) (s : Nat → Value) (w : World) (h : s51_p7 K B1 (s 1) (s 5) (s 6) w) : Tr (s51_p7_den K (fun s w => B1 [s 1, s 5, s 6] w) s w) :=
  tr_simple (P := Tryd.prog) (codes := [(cd (Tryd.f51.body.getD .skip) [1, 1, 1, 1, 1, 1, 0, 1, 0, 0, 0, 0]), (cd (Tryd.f51.body.getD .skip) [1, 1, 1, 1, 1, 1, 0, 1, 0, 0, 0, 1]), (cd (Tryd.f51.body.getD .skip) [1, 1, 1, 1, 1, 1, 0, 1, 0, 0, 1, 0]), (cd (Tryd.f51.body.getD .skip) [1, 1, 1, 1, 1, 1, 0, 1, 0, 0, 1, 1])]) (N := (fun s w => B1 [s 1, s 5, s 6] w)) (N' := (fun s w => B1 [s 1, s 5, s 6] w)) (X := (fun i => (bif Nat.beq i 0 then (fun s w => s51_p6 K (s 1) (s 5) w) else (fun _ _ => False)))) (X' := (fun i => (bif Nat.beq i 0 then (s51_p6_den K) else (fun _ _ => False)))) (R := s51_R K) (s := s) (w := w) (p := s51_p7 K B1 (s 1) (s 5) (s 6) w) (q := s51_p7_den K (fun s w => B1 [s 1, s 5, s 6] w) s w) tr_id (fun i => (tr_bif (fun s w h => s51_p6_ok K s w @h) tr_id)) (by kernel_rfl) (by kernel_rfl) @h
def s51_p8_F (K : Value → World → Prop) (B1 : List Value → World → Prop) (l : List Value) (w : World) : Prop :=
  match l with
  | [t1, t5, t6] => s51_p7 K B1 t1 t5 t6 w
  | _ => False
theorem s51_p8_Fe {K : Value → World → Prop} {B1 : List Value → World → Prop} {t1 t5 t6 : Value} {w : World} : s51_p8_F K B1 [t1, t5, t6] w = s51_p7 K B1 t1 t5 t6 w := by kernel_rfl
def s51_p8 (K : Value → World → Prop) (t1 t5 t6 : Value) (w : World) : Prop :=
  LoopL (s51_p8_F K) [t1, t5, t6] w
def s51_p8_den (K : Value → World → Prop) : (Nat → Value) → World → Prop := fun s w => LoopP (fun M1 s w => s51_p7_den K M1 s w) s w
theorem s51_p8_ok (K : Value → World → Prop) (s : Nat → Value) (w : World) (h : s51_p8 K (s 1) (s 5) (s 6) w) : Tr (s51_p8_den K s w) :=
  tr_loop (G := fun N' s w => s51_p7_den K N' s w) (F := s51_p8_F K) (sel := fun s => [s 1, s 5, s 6]) (s := s) (w := w) (p := s51_p8 K (s 1) (s 5) (s 6) w) (q := s51_p8_den K s w) (fun B s w h => s51_p7_ok K B s w @h) (by kernel_rfl) (by kernel_rfl) @h
def s51_p9 (K : Value → World → Prop) (t0 t1 : Value) (w : World) : Prop :=
  nck t0 (fun t9 w =>
  fd 0 t9 (fun t10 w =>
  ld1 t10 (fun t11 w =>
  bdq [(.pointer none), (.int .i64 0)] [(some (0, 1), t11)] (fun t12 w =>
  nw 121 #[(.pointer none), (.int .i64 0)] (fun t5 w =>
  stn 2 t5 t12 (fun w =>
  nck t1 (fun t14 w =>
  fd 0 t14 (fun t15 w =>
  ld1 t15 (fun t16 w =>
  boI .add t16 (.int .u32 1) (fun t17 w =>
  cl Tryd.prog 56 #[t5, t17, (.int .u64 1)] (fun t18 w =>
  nck t1 (fun t20 w =>
  fd 0 t20 (fun t21 w =>
  ld1 t21 (fun t22 w =>
  boI .add t22 (.int .u32 2) (fun t23 w =>
  cl Tryd.prog 56 #[t5, t23, (.int .u64 0)] (fun t24 w =>
  nck t1 (fun t26 w =>
  fd 0 t26 (fun t27 w =>
  ld1 t27 (fun t28 w =>
  boI .add t28 (.int .u32 3) (fun t29 w =>
  cl Tryd.prog 56 #[t5, t29, (.int .u64 0)] (fun t30 w =>
  nck t1 (fun t32 w =>
  fd 0 t32 (fun t33 w =>
  ld1 t33 (fun t34 w =>
  boI .add t34 (.int .u32 4) (fun t35 w =>
  cl Tryd.prog 56 #[t5, t35, (.int .u64 0)] (fun t36 w =>
  nck t1 (fun t38 w =>
  fd 1 t38 (fun t39 w =>
  ld1 t39 (fun t40 w =>
  s51_p8 K t1 t5 t40 w) w) w) w) w) w) w) w) w) w) w) w) w) w) w) w) w) w) w) w) w) w) w) w) w) w) w) w) w) w
def s51_p9_den (K : Value → World → Prop) : (Nat → Value) → World → Prop := denL Tryd.prog [(cd (Tryd.f51.body.getD .skip) [0]), (cd (Tryd.f51.body.getD .skip) [1, 0]), (cd (Tryd.f51.body.getD .skip) [1, 1, 0]), (cd (Tryd.f51.body.getD .skip) [1, 1, 1, 0]), (cd (Tryd.f51.body.getD .skip) [1, 1, 1, 1, 0]), (cd (Tryd.f51.body.getD .skip) [1, 1, 1, 1, 1, 0]), (cd (Tryd.f51.body.getD .skip) [1, 1, 1, 1, 1, 1, 0, 0])] (s51_p8_den K) (fun i => (fun _ _ => False)) (s51_R K)
theorem s51_p9_ok (K : Value → World → Prop) (s : Nat → Value) (w : World) (h : s51_p9 K (s 0) (s 1) w) : Tr (s51_p9_den K s w) :=
  tr_simple (P := Tryd.prog) (codes := [(cd (Tryd.f51.body.getD .skip) [0]), (cd (Tryd.f51.body.getD .skip) [1, 0]), (cd (Tryd.f51.body.getD .skip) [1, 1, 0]), (cd (Tryd.f51.body.getD .skip) [1, 1, 1, 0]), (cd (Tryd.f51.body.getD .skip) [1, 1, 1, 1, 0]), (cd (Tryd.f51.body.getD .skip) [1, 1, 1, 1, 1, 0]), (cd (Tryd.f51.body.getD .skip) [1, 1, 1, 1, 1, 1, 0, 0])]) (N := (fun s w => s51_p8 K (s 1) (s 5) (s 6) w)) (N' := (s51_p8_den K)) (X := (fun i => (fun _ _ => False))) (X' := (fun i => (fun _ _ => False))) (R := s51_R K) (s := s) (w := w) (p := s51_p9 K (s 0) (s 1) w) (q := s51_p9_den K s w) (fun s w h => s51_p8_ok K s w @h) (fun i => tr_id) (by kernel_rfl) (by kernel_rfl) @h
/-- the call, from the text -/
theorem c51 (t0 t1 : Value) {K : Value → World → Prop} {w : World} (h : s51_p9 K t0 t1 w) : cl Tryd.prog 51 #[t0, t1] K w :=
  calls_of_tr (c := (Tryd.f51.body.getD .skip)) (fn := Tryd.f51) (q := s51_p9_den K (st0 #[t0, t1]) w) Tryd.func51 (by kernel_rfl) (by kernel_rfl) (Nat.le_of_ble_eq_true (by kernel_rfl)) (by kernel_rfl) (by kernel_rfl) (s51_p9_ok K (st0 #[t0, t1]) w @h)

/-! ### function 52 : (*e2e.memm.Arena).Charge -/
def s52_R (K : Value → World → Prop) (s : Nat → Value) (w : World) : Prop := retv Tryd.prog s Tryd.f52.results.toList (fun vs => K (pack vs) w) w
def s52_p1 (K : Value → World → Prop) (t0 t1 : Value) (w : World) : Prop :=
  nck t0 (fun t5 w =>
  fd 1 t5 (fun t6 w =>
  ld1 t6 (fun t7 w =>
  boI .add t7 t1 (fun t9 w =>
  nck t0 (fun t10 w =>
  fd 1 t10 (fun t11 w =>
  st1 t11 t9 (fun w =>
  K (.tuple #[]) w) w) w) w) w) w) w) w
def s52_p1_den (K : Value → World → Prop) : (Nat → Value) → World → Prop := denL Tryd.prog [(cd (Tryd.f52.body.getD .skip) [])] (s52_R K) (fun i => (fun _ _ => False)) (s52_R K)
theorem s52_p1_ok (K : Value → World → Prop) (s : Nat → Value) (w : World) (h : s52_p1 K (s 0) (s 1) w) : Tr (s52_p1_den K s w) :=
  tr_simple (P := Tryd.prog) (codes := [(cd (Tryd.f52.body.getD .skip) [])]) (N := (s52_R K)) (N' := (s52_R K)) (X := (fun i => (fun _ _ => False))) (X' := (fun i => (fun _ _ => False))) (R := s52_R K) (s := s) (w := w) (p := s52_p1 K (s 0) (s 1) w) (q := s52_p1_den K s w) tr_id (fun i => tr_id) (by kernel_rfl) (by kernel_rfl) @h
/-- the call, from the text -/
theorem c52 (t0 t1 : Value) {K : Value → World → Prop} {w : World} (h : s52_p1 K t0 t1 w) : cl Tryd.prog 52 #[t0, t1] K w :=
  calls_of_tr (c := (Tryd.f52.body.getD .skip)) (fn := Tryd.f52) (q := s52_p1_den K (st0 #[t0, t1]) w) Tryd.func52 (by kernel_rfl) (by kernel_rfl) (Nat.le_of_ble_eq_true (by kernel_rfl)) (by kernel_rfl) (by kernel_rfl) (s52_p1_ok K (st0 #[t0, t1]) w @h)

/-! ### function 53 : (*e2e.pool.port).sealed -/
def s53_R (K : Value → World → Prop) (s : Nat → Value) (w : World) : Prop := retv Tryd.prog s Tryd.f53.results.toList (fun vs => K (pack vs) w) w
def s53_p1 (K : Value → World → Prop) (t0 t1 : Value) (w : World) : Prop :=
  nck t1 (fun t7 w =>
  fd 0 t7 (fun t8 w =>
  ld1 t8 (fun t9 w =>
  boI .add t9 (.int .u32 0) (fun t10 w =>
  cl Tryd.prog 55 #[t0, t10] (fun t11 w =>
  cl Tryd.prog 62 #[t1] (fun t13 w =>
  boI .eql t11 t13 (fun t14 w =>
  gd t14 true (fun K w => K t0 w) (fun t16 w =>
  gd t14 true (nck t16) (fun t17 w =>
  gd t14 true (fd 1 t17) (fun t18 w =>
  gd t14 true (ld1 t18) (fun t19 w =>
  gd t14 true (boI .eql t19 (.int .i64 0)) (fun t20 w =>
  pk t14 t20 (.bool false) (fun t21 w =>
  K t21 w) w) w) w) w) w) w) w) w) w) w) w) w) w
def s53_p1_den (K : Value → World → Prop) : (Nat → Value) → World → Prop := denL Tryd.prog [(cd (Tryd.f53.body.getD .skip) [0]), (cd (Tryd.f53.body.getD .skip) [1, 0]), (cd (Tryd.f53.body.getD .skip) [1, 1])] (fun _ _ => False) (fun i => (fun _ _ => False)) (s53_R K)
theorem s53_p1_ok (K : Value → World → Prop) (s : Nat → Value) (w : World) (h : s53_p1 K (s 0) (s 1) w) : Tr (s53_p1_den K s w) :=
  tr_simple (P := Tryd.prog) (codes := [(cd (Tryd.f53.body.getD .skip) [0]), (cd (Tryd.f53.body.getD .skip) [1, 0]), (cd (Tryd.f53.body.getD .skip) [1, 1])]) (N := (fun _ _ => False)) (N' := (fun _ _ => False)) (X := (fun i => (fun _ _ => False))) (X' := (fun i => (fun _ _ => False))) (R := s53_R K) (s := s) (w := w) (p := s53_p1 K (s 0) (s 1) w) (q := s53_p1_den K s w) tr_id (fun i => tr_id) (by kernel_rfl) (by kernel_rfl) @h
/-- the call, from the text -/
theorem c53 (t0 t1 : Value) {K : Value → World → Prop} {w : World} (h : s53_p1 K t0 t1 w) : cl Tryd.prog 53 #[t0, t1] K w :=
  calls_of_tr (c := (Tryd.f53.body.getD .skip)) (fn := Tryd.f53) (q := s53_p1_den K (st0 #[t0, t1]) w) Tryd.func53 (by kernel_rfl) (by kernel_rfl) (Nat.le_of_ble_eq_true (by kernel_rfl)) (by kernel_rfl) (by kernel_rfl) (s53_p1_ok K (st0 #[t0, t1]) w @h)

/-! ### function 54 : (*e2e.pool.port).or -/
def s54_R (K : Value → World → Prop) (s : Nat → Value) (w : World) : Prop := retv Tryd.prog s Tryd.f54.results.toList (fun vs => K (pack vs) w) w
def s54_p1 (K : Value → World → Prop) (t0 t1 : Value) (w : World) : Prop :=
  nck t0 (fun t6 w =>
  fd 1 t6 (fun t7 w =>
  ld1 t7 (fun t8 w =>
  boI .neq t8 (.int .i64 0) (fun t9 w =>
  ifb t9
  (nck t0 (fun t11 w =>
  fd 1 t11 (fun t12 w =>
  ld1 t12 (fun t13 w =>
  K t13 w) w) w) w)
  (K t1 w)) w) w) w) w
def s54_p1_den (K : Value → World → Prop) : (Nat → Value) → World → Prop := denL Tryd.prog [(cd (Tryd.f54.body.getD .skip) [0]), (cd (Tryd.f54.body.getD .skip) [1, 0, 0]), (cd (Tryd.f54.body.getD .skip) [1, 0, 1]), (cd (Tryd.f54.body.getD .skip) [1, 1, 0]), (cd (Tryd.f54.body.getD .skip) [1, 1, 1])] (fun _ _ => False) (fun i => (fun _ _ => False)) (s54_R K)
theorem s54_p1_ok (K : Value → World → Prop) (s : Nat → Value) (w : World) (h : s54_p1 K (s 0) (s 1) w) : Tr (s54_p1_den K s w) :=
  tr_simple (P := Tryd.prog) (codes := [(cd (Tryd.f54.body.getD .skip) [0]), (cd (Tryd.f54.body.getD .skip) [1, 0, 0]), (cd (Tryd.f54.body.getD .skip) [1, 0, 1]), (cd (Tryd.f54.body.getD .skip) [1, 1, 0]), (cd (Tryd.f54.body.getD .skip) [1, 1, 1])]) (N := (fun _ _ => False)) (N' := (fun _ _ => False)) (X := (fun i => (fun _ _ => False))) (X' := (fun i => (fun _ _ => False))) (R := s54_R K) (s := s) (w := w) (p := s54_p1 K (s 0) (s 1) w) (q := s54_p1_den K s w) tr_id (fun i => tr_id) (by kernel_rfl) (by kernel_rfl) @h
/-- the call, from the text -/
theorem c54 (t0 t1 : Value) {K : Value → World → Prop} {w : World} (h : s54_p1 K t0 t1 w) : cl Tryd.prog 54 #[t0, t1] K w :=
  calls_of_tr (c := (Tryd.f54.body.getD .skip)) (fn := Tryd.f54) (q := s54_p1_den K (st0 #[t0, t1]) w) Tryd.func54 (by kernel_rfl) (by kernel_rfl) (Nat.le_of_ble_eq_true (by kernel_rfl)) (by kernel_rfl) (by kernel_rfl) (s54_p1_ok K (st0 #[t0, t1]) w @h)

/-! ### function 55 : (*e2e.pool.port).load -/
def s55_R (K : Value → World → Prop) (s : Nat → Value) (w : World) : Prop := retv Tryd.prog s Tryd.f55.results.toList (fun vs => K (pack vs) w) w
def s55_p1 (K : Value → World → Prop) (t0 t1 : Value) (w : World) : Prop :=
  nck t0 (fun t8 w =>
  fd 1 t8 (fun t9 w =>
  ld1 t9 (fun t10 w =>
  boI .neq t10 (.int .i64 0) (fun t11 w =>
  ifb t11
  (K (.int .u64 0) w)
  (nck t0 (fun t14 w =>
  fd 0 t14 (fun t15 w =>
  ld1 t15 (fun t16 w =>
  cl Tryd.prog 23 #[t16, t1] (fun t18 w =>
  exq t18 0 (fun t19 w =>
  exq t18 1 (fun t20 w =>
  nck t0 (fun t23 w =>
  fd 1 t23 (fun t24 w =>
  st1 t24 t20 (fun w =>
  K t19 w) w) w) w) w) w) w) w) w) w)) w) w) w) w
def s55_p1_den (K : Value → World → Prop) : (Nat → Value) → World → Prop := denL Tryd.prog [(cd (Tryd.f55.body.getD .skip) [0]), (cd (Tryd.f55.body.getD .skip) [1, 0, 0]), (cd (Tryd.f55.body.getD .skip) [1, 0, 1]), (cd (Tryd.f55.body.getD .skip) [1, 1, 0]), (cd (Tryd.f55.body.getD .skip) [1, 1, 1, 0]), (cd (Tryd.f55.body.getD .skip) [1, 1, 1, 1, 0]), (cd (Tryd.f55.body.getD .skip) [1, 1, 1, 1, 1])] (fun _ _ => False) (fun i => (fun _ _ => False)) (s55_R K)
theorem s55_p1_ok (K : Value → World → Prop) (s : Nat → Value) (w : World) (h : s55_p1 K (s 0) (s 1) w) : Tr (s55_p1_den K s w) :=
  tr_simple (P := Tryd.prog) (codes := [(cd (Tryd.f55.body.getD .skip) [0]), (cd (Tryd.f55.body.getD .skip) [1, 0, 0]), (cd (Tryd.f55.body.getD .skip) [1, 0, 1]), (cd (Tryd.f55.body.getD .skip) [1, 1, 0]), (cd (Tryd.f55.body.getD .skip) [1, 1, 1, 0]), (cd (Tryd.f55.body.getD .skip) [1, 1, 1, 1, 0]), (cd (Tryd.f55.body.getD .skip) [1, 1, 1, 1, 1])]) (N := (fun _ _ => False)) (N' := (fun _ _ => False)) (X := (fun i => (fun _ _ => False))) (X' := (fun i => (fun _ _ => False))) (R := s55_R K) (s := s) (w := w) (p := s55_p1 K (s 0) (s 1) w) (q := s55_p1_den K s w) tr_id (fun i => tr_id) (by kernel_rfl) (by kernel_rfl) @h
/-- the call, from the text -/
theorem c55 (t0 t1 : Value) {K : Value → World → Prop} {w : World} (h : s55_p1 K t0 t1 w) : cl Tryd.prog 55 #[t0, t1] K w :=
  calls_of_tr (c := (Tryd.f55.body.getD .skip)) (fn := Tryd.f55) (q := s55_p1_den K (st0 #[t0, t1]) w) Tryd.func55 (by kernel_rfl) (by kernel_rfl) (Nat.le_of_ble_eq_true (by kernel_rfl)) (by kernel_rfl) (by kernel_rfl) (s55_p1_ok K (st0 #[t0, t1]) w @h)

/-! ### function 56 : (*e2e.pool.port).store -/
def s56_R (K : Value → World → Prop) (s : Nat → Value) (w : World) : Prop := retv Tryd.prog s Tryd.f56.results.toList (fun vs => K (pack vs) w) w
def s56_p1 (K : Value → World → Prop) (t0 t1 t2 : Value) (w : World) : Prop :=
  nck t0 (fun t7 w =>
  fd 1 t7 (fun t8 w =>
  ld1 t8 (fun t9 w =>
  boI .neq t9 (.int .i64 0) (fun t10 w =>
  ifb t10
  (K (.tuple #[]) w)
  (nck t0 (fun t13 w =>
  fd 0 t13 (fun t14 w =>
  ld1 t14 (fun t15 w =>
  cl Tryd.prog 28 #[t15, t1, t2] (fun t18 w =>
  nck t0 (fun t19 w =>
  fd 1 t19 (fun t20 w =>
  st1 t20 t18 (fun w =>
  K (.tuple #[]) w) w) w) w) w) w) w) w)) w) w) w) w
def s56_p1_den (K : Value → World → Prop) : (Nat → Value) → World → Prop := denL Tryd.prog [(cd (Tryd.f56.body.getD .skip) [0, 0]), (cd (Tryd.f56.body.getD .skip) [0, 1]), (cd (Tryd.f56.body.getD .skip) [1])] (s56_R K) (fun i => (fun _ _ => False)) (s56_R K)
theorem s56_p1_ok (K : Value → World → Prop) (s : Nat → Value) (w : World) (h : s56_p1 K (s 0) (s 1) (s 2) w) : Tr (s56_p1_den K s w) :=
  tr_simple (P := Tryd.prog) (codes := [(cd (Tryd.f56.body.getD .skip) [0, 0]), (cd (Tryd.f56.body.getD .skip) [0, 1]), (cd (Tryd.f56.body.getD .skip) [1])]) (N := (s56_R K)) (N' := (s56_R K)) (X := (fun i => (fun _ _ => False))) (X' := (fun i => (fun _ _ => False))) (R := s56_R K) (s := s) (w := w) (p := s56_p1 K (s 0) (s 1) (s 2) w) (q := s56_p1_den K s w) tr_id (fun i => tr_id) (by kernel_rfl) (by kernel_rfl) @h
/-- the call, from the text -/
theorem c56 (t0 t1 t2 : Value) {K : Value → World → Prop} {w : World} (h : s56_p1 K t0 t1 t2 w) : cl Tryd.prog 56 #[t0, t1, t2] K w :=
  calls_of_tr (c := (Tryd.f56.body.getD .skip)) (fn := Tryd.f56) (q := s56_p1_den K (st0 #[t0, t1, t2]) w) Tryd.func56 (by kernel_rfl) (by kernel_rfl) (Nat.le_of_ble_eq_true (by kernel_rfl)) (by kernel_rfl) (by kernel_rfl) (s56_p1_ok K (st0 #[t0, t1, t2]) w @h)

/-! ### function 57 : (*e2e.pool.shape).blockAt -/
def s57_R (K : Value → World → Prop) (s : Nat → Value) (w : World) : Prop := retv Tryd.prog s Tryd.f57.results.toList (fun vs => K (pack vs) w) w
def s57_p1 (K : Value → World → Prop) (t4 : Value) (w : World) : Prop :=
  K t4 w
def s57_p1_den (K : Value → World → Prop) : (Nat → Value) → World → Prop := denL Tryd.prog [(cd (Tryd.f57.body.getD .skip) [1, 1])] (fun _ _ => False) (fun i => (fun _ _ => False)) (s57_R K)
theorem s57_p1_ok (K : Value → World → Prop) (s : Nat → Value) (w : World) (h : s57_p1 K (s 4) w) : Tr (s57_p1_den K s w) :=
  tr_simple (P := Tryd.prog) (codes := [(cd (Tryd.f57.body.getD .skip) [1, 1])]) (N := (fun _ _ => False)) (N' := (fun _ _ => False)) (X := (fun i => (fun _ _ => False))) (X' := (fun i => (fun _ _ => False))) (R := s57_R K) (s := s) (w := w) (p := s57_p1 K (s 4) w) (q := s57_p1_den K s w) tr_id (fun i => tr_id) (by kernel_rfl) (by kernel_rfl) @h
def s57_p2_d (K : Value → World → Prop) (t0 t1 : Value) (w0 w : World) : Prop :=
  nck t0 (fun t6 _ =>
  fd 2 t6 (fun t7 _ =>
  ld1 t7 (fun t8 _ =>
  nck t0 (fun t11 _ =>
  fd 4 t11 (fun t12 _ =>
  ld1 t12 (fun t13 _ =>
  boI .mul t1 t13 (fun t14 _ =>
  boI .add t8 t14 (fun t15 _ =>
  s57_p1 K t15 w) w0) w0) w0) w0) w0) w0) w0) w0
def s57_p2 (K : Value → World → Prop) (t0 t1 : Value) (w : World) : Prop := s57_p2_d K t0 t1 (drw w) (drw w)
def s57_p2_den (K : Value → World → Prop) : (Nat → Value) → World → Prop := denL Tryd.prog [(cd (Tryd.f57.body.getD .skip) [1, 0])] (s57_p1_den K) (fun i => (fun _ _ => False)) (s57_R K)
theorem s57_p2_ok (K : Value → World → Prop) (s : Nat → Value) (w : World) (h : s57_p2 K (s 0) (s 1) w) : Tr (s57_p2_den K s w) :=
  tr_draw (P := Tryd.prog) (ops := (ro (cd (Tryd.f57.body.getD .skip) [1, 0]))) (ms := [0, 1, 3, 7, 0, 0, 32, 96, 224, 496, 1023, 2047]) (cs := [0, 1, 2, 3, 4, 5, 6, 7, 8, 9, 10, 11]) (N := (fun s w => s57_p1 K (s 4) w)) (N' := (s57_p1_den K)) (s := s) (w := w) (p := s57_p2 K (s 0) (s 1) w) (q := s57_p2_den K s w) (by kernel_rfl) (by kernel_rfl) (fun s w h => s57_p1_ok K s w @h) (by kernel_rfl) (by kernel_rfl) @h
def s57_p3 (K : Value → World → Prop) (t0 t1 : Value) (w : World) : Prop :=
  s57_p2 K t0 t1 w
def s57_p3_den (K : Value → World → Prop) : (Nat → Value) → World → Prop := denL Tryd.prog [(cd (Tryd.f57.body.getD .skip) [0])] (s57_p2_den K) (fun i => (fun _ _ => False)) (s57_R K)
theorem s57_p3_ok (K : Value → World → Prop) (s : Nat → Value) (w : World) (h : s57_p3 K (s 0) (s 1) w) : Tr (s57_p3_den K s w) :=
  tr_simple (P := Tryd.prog) (codes := [(cd (Tryd.f57.body.getD .skip) [0])]) (N := (fun s w => s57_p2 K (s 0) (s 1) w)) (N' := (s57_p2_den K)) (X := (fun i => (fun _ _ => False))) (X' := (fun i => (fun _ _ => False))) (R := s57_R K) (s := s) (w := w) (p := s57_p3 K (s 0) (s 1) w) (q := s57_p3_den K s w) (fun s w h => s57_p2_ok K s w @h) (fun i => tr_id) (by kernel_rfl) (by kernel_rfl) @h
/-- the call, from the text -/
theorem c57 (t0 t1 : Value) {K : Value → World → Prop} {w : World} (h : s57_p3 K t0 t1 w) : cl Tryd.prog 57 #[t0, t1] K w :=
  calls_of_tr (c := (Tryd.f57.body.getD .skip)) (fn := Tryd.f57) (q := s57_p3_den K (st0 #[t0, t1]) w) Tryd.func57 (by kernel_rfl) (by kernel_rfl) (Nat.le_of_ble_eq_true (by kernel_rfl)) (by kernel_rfl) (by kernel_rfl) (s57_p3_ok K (st0 #[t0, t1]) w @h)

/-! ### function 58 : (*e2e.pool.shape).mapCell -/
def s58_R (K : Value → World → Prop) (s : Nat → Value) (w : World) : Prop := retv Tryd.prog s Tryd.f58.results.toList (fun vs => K (pack vs) w) w
def s58_p1 (K : Value → World → Prop) (t0 t1 : Value) (w : World) : Prop :=
  nck t0 (fun t7 w =>
  fd 1 t7 (fun t8 w =>
  ld1 t8 (fun t9 w =>
  boI .quo t1 (.int .u32 64) (fun t11 w =>
  boI .add t9 t11 (fun t12 w =>
  boI .rem t1 (.int .u32 64) (fun t14 w =>
  boI .shl (.int .u64 1) t14 (fun t15 w =>
  K (.tuple #[t12, t15]) w) w) w) w) w) w) w) w
def s58_p1_den (K : Value → World → Prop) : (Nat → Value) → World → Prop := denL Tryd.prog [(cd (Tryd.f58.body.getD .skip) [0]), (cd (Tryd.f58.body.getD .skip) [1, 0]), (cd (Tryd.f58.body.getD .skip) [1, 1])] (fun _ _ => False) (fun i => (fun _ _ => False)) (s58_R K)
theorem s58_p1_ok (K : Value → World → Prop) (s : Nat → Value) (w : World) (h : s58_p1 K (s 0) (s 1) w) : Tr (s58_p1_den K s w) :=
  tr_simple (P := Tryd.prog) (codes := [(cd (Tryd.f58.body.getD .skip) [0]), (cd (Tryd.f58.body.getD .skip) [1, 0]), (cd (Tryd.f58.body.getD .skip) [1, 1])]) (N := (fun _ _ => False)) (N' := (fun _ _ => False)) (X := (fun i => (fun _ _ => False))) (X' := (fun i => (fun _ _ => False))) (R := s58_R K) (s := s) (w := w) (p := s58_p1 K (s 0) (s 1) w) (q := s58_p1_den K s w) tr_id (fun i => tr_id) (by kernel_rfl) (by kernel_rfl) @h
/-- the call, from the text -/
theorem c58 (t0 t1 : Value) {K : Value → World → Prop} {w : World} (h : s58_p1 K t0 t1 w) : cl Tryd.prog 58 #[t0, t1] K w :=
  calls_of_tr (c := (Tryd.f58.body.getD .skip)) (fn := Tryd.f58) (q := s58_p1_den K (st0 #[t0, t1]) w) Tryd.func58 (by kernel_rfl) (by kernel_rfl) (Nat.le_of_ble_eq_true (by kernel_rfl)) (by kernel_rfl) (by kernel_rfl) (s58_p1_ok K (st0 #[t0, t1]) w @h)

/-! ### function 59 : (*e2e.pool.shape).indexOf -/
def s59_R (K : Value → World → Prop) (s : Nat → Value) (w : World) : Prop := retv Tryd.prog s Tryd.f59.results.toList (fun vs => K (pack vs) w) w
def s59_p1 (K : Value → World → Prop) (t0 t1 : Value) (w : World) : Prop :=
  nck t0 (fun t9 w =>
  fd 2 t9 (fun t10 w =>
  ld1 t10 (fun t11 w =>
  boI .lss t1 t11 (fun t12 w =>
  gd t12 false (fun K w => K t1 w) (fun t14 w =>
  gd t12 false (fun K w => K t0 w) (fun t15 w =>
  gd t12 false (nck t15) (fun t16 w =>
  gd t12 false (fd 3 t16) (fun t17 w =>
  gd t12 false (ld1 t17) (fun t18 w =>
  gd t12 false (boI .geq t14 t18) (fun t19 w =>
  pk t12 (.bool true) t19 (fun t20 w =>
  ifb t20
  (K (.tuple #[(.int .u32 0), (.int .i64 8)]) w)
  (nck t0 (fun t23 w =>
  fd 2 t23 (fun t24 w =>
  ld1 t24 (fun t25 w =>
  boI .sub t1 t25 (fun t26 w =>
  nck t0 (fun t29 w =>
  fd 4 t29 (fun t30 w =>
  ld1 t30 (fun t31 w =>
  boI .rem t26 t31 (fun t32 w =>
  boI .neq t32 (.int .u32 0) (fun t33 w =>
  ifb t33
  (K (.tuple #[(.int .u32 0), (.int .i64 9)]) w)
  (nck t0 (fun t36 w =>
  fd 4 t36 (fun t37 w =>
  ld1 t37 (fun t38 w =>
  boI .quo t26 t38 (fun t39 w =>
  K (.tuple #[t39, (.int .i64 0)]) w) w) w) w) w)) w) w) w) w) w) w) w) w) w)) w) w) w) w) w) w) w) w) w) w) w
def s59_p1_den (K : Value → World → Prop) : (Nat → Value) → World → Prop := denL Tryd.prog [(cd (Tryd.f59.body.getD .skip) [0]), (cd (Tryd.f59.body.getD .skip) [1, 0, 0]), (cd (Tryd.f59.body.getD .skip) [1, 0, 1]), (cd (Tryd.f59.body.getD .skip) [1, 1, 0]), (cd (Tryd.f59.body.getD .skip) [1, 1, 1, 0, 0]), (cd (Tryd.f59.body.getD .skip) [1, 1, 1, 0, 1]), (cd (Tryd.f59.body.getD .skip) [1, 1, 1, 1, 0]), (cd (Tryd.f59.body.getD .skip) [1, 1, 1, 1, 1])] (fun _ _ => False) (fun i => (fun _ _ => False)) (s59_R K)
theorem s59_p1_ok (K : Value → World → Prop) (s : Nat → Value) (w : World) (h : s59_p1 K (s 0) (s 1) w) : Tr (s59_p1_den K s w) :=
  tr_simple (P := Tryd.prog) (codes := [(cd (Tryd.f59.body.getD .skip) [0]), (cd (Tryd.f59.body.getD .skip) [1, 0, 0]), (cd (Tryd.f59.body.getD .skip) [1, 0, 1]), (cd (Tryd.f59.body.getD .skip) [1, 1, 0]), (cd (Tryd.f59.body.getD .skip) [1, 1, 1, 0, 0]), (cd (Tryd.f59.body.getD .skip) [1, 1, 1, 0, 1]), (cd (Tryd.f59.body.getD .skip) [1, 1, 1, 1, 0]), (cd (Tryd.f59.body.getD .skip) [1, 1, 1, 1, 1])]) (N := (fun _ _ => False)) (N' := (fun _ _ => False)) (X := (fun i => (fun _ _ => False))) (X' := (fun i => (fun _ _ => False))) (R := s59_R K) (s := s) (w := w) (p := s59_p1 K (s 0) (s 1) w) (q := s59_p1_den K s w) tr_id (fun i => tr_id) (by kernel_rfl) (by kernel_rfl) @h
/-- the call, from the text -/
theorem c59 (t0 t1 : Value) {K : Value → World → Prop} {w : World} (h : s59_p1 K t0 t1 w) : cl Tryd.prog 59 #[t0, t1] K w :=
  calls_of_tr (c := (Tryd.f59.body.getD .skip)) (fn := Tryd.f59) (q := s59_p1_den K (st0 #[t0, t1]) w) Tryd.func59 (by kernel_rfl) (by kernel_rfl) (Nat.le_of_ble_eq_true (by kernel_rfl)) (by kernel_rfl) (by kernel_rfl) (s59_p1_ok K (st0 #[t0, t1]) w @h)

/-! ### function 60 : (*e2e.poolm.Model).has -/
def s60_R (K : Value → World → Prop) (s : Nat → Value) (w : World) : Prop := retv Tryd.prog s Tryd.f60.results.toList (fun vs => K (pack vs) w) w
def s60_p1 (K : Value → World → Prop) (t0 t1 : Value) (w : World) : Prop :=
  boI .geq t1 (.int .i64 0) (fun t6 w =>
  gd t6 true (fun K w => K t1 w) (fun t8 w =>
  gd t6 true (fun K w => K t0 w) (fun t9 w =>
  gd t6 true (nck t9) (fun t10 w =>
  gd t6 true (fd 1 t10) (fun t11 w =>
  gd t6 true (ld1 t11) (fun t12 w =>
  gd t6 true (lnS t12) (fun t13 w =>
  gd t6 true (boI .lss t8 t13) (fun t14 w =>
  pk t6 t14 (.bool false) (fun t15 w =>
  K t15 w) w) w) w) w) w) w) w) w) w
def s60_p1_den (K : Value → World → Prop) : (Nat → Value) → World → Prop := denL Tryd.prog [(cd (Tryd.f60.body.getD .skip) [0]), (cd (Tryd.f60.body.getD .skip) [1, 0]), (cd (Tryd.f60.body.getD .skip) [1, 1])] (fun _ _ => False) (fun i => (fun _ _ => False)) (s60_R K)
theorem s60_p1_ok (K : Value → World → Prop) (s : Nat → Value) (w : World) (h : s60_p1 K (s 0) (s 1) w) : Tr (s60_p1_den K s w) :=
  tr_simple (P := Tryd.prog) (codes := [(cd (Tryd.f60.body.getD .skip) [0]), (cd (Tryd.f60.body.getD .skip) [1, 0]), (cd (Tryd.f60.body.getD .skip) [1, 1])]) (N := (fun _ _ => False)) (N' := (fun _ _ => False)) (X := (fun i => (fun _ _ => False))) (X' := (fun i => (fun _ _ => False))) (R := s60_R K) (s := s) (w := w) (p := s60_p1 K (s 0) (s 1) w) (q := s60_p1_den K s w) tr_id (fun i => tr_id) (by kernel_rfl) (by kernel_rfl) @h
/-- the call, from the text -/
theorem c60 (t0 t1 : Value) {K : Value → World → Prop} {w : World} (h : s60_p1 K t0 t1 w) : cl Tryd.prog 60 #[t0, t1] K w :=
  calls_of_tr (c := (Tryd.f60.body.getD .skip)) (fn := Tryd.f60) (q := s60_p1_den K (st0 #[t0, t1]) w) Tryd.func60 (by kernel_rfl) (by kernel_rfl) (Nat.le_of_ble_eq_true (by kernel_rfl)) (by kernel_rfl) (by kernel_rfl) (s60_p1_ok K (st0 #[t0, t1]) w @h)

/-! ### function 61 : math.bits.OnesCount64 -/
def s61_R (K : Value → World → Prop) (s : Nat → Value) (w : World) : Prop := retv Tryd.prog s Tryd.f61.results.toList (fun vs => K (pack vs) w) w
def s61_p1 (K : Value → World → Prop) (t0 : Value) (w : World) : Prop :=
  boI .shr t0 (.int .u64 1) (fun t4 w =>
  boI .and t4 (.int .u64 6148914691236517205) (fun t5 w =>
  boI .and t0 (.int .u64 6148914691236517205) (fun t7 w =>
  boI .add t5 t7 (fun t8 w =>
  boI .shr t8 (.int .u64 2) (fun t10 w =>
  boI .and t10 (.int .u64 3689348814741910323) (fun t11 w =>
  boI .and t8 (.int .u64 3689348814741910323) (fun t13 w =>
  boI .add t11 t13 (fun t14 w =>
  boI .shr t14 (.int .u64 4) (fun t16 w =>
  boI .add t16 t14 (fun t18 w =>
  boI .and t18 (.int .u64 1085102592571150095) (fun t19 w =>
  boI .shr t19 (.int .u64 8) (fun t22 w =>
  boI .add t19 t22 (fun t23 w =>
  boI .shr t23 (.int .u64 16) (fun t26 w =>
  boI .add t23 t26 (fun t27 w =>
  boI .shr t27 (.int .u64 32) (fun t30 w =>
  boI .add t27 t30 (fun t31 w =>
  cvi .i64 t31 (fun t33 w =>
  boI .and t33 (.int .i64 127) (fun t34 w =>
  K t34 w) w) w) w) w) w) w) w) w) w) w) w) w) w) w) w) w) w) w) w
def s61_p1_den (K : Value → World → Prop) : (Nat → Value) → World → Prop := denL Tryd.prog [(cd (Tryd.f61.body.getD .skip) [0]), (cd (Tryd.f61.body.getD .skip) [1, 0]), (cd (Tryd.f61.body.getD .skip) [1, 1, 0]), (cd (Tryd.f61.body.getD .skip) [1, 1, 1, 0]), (cd (Tryd.f61.body.getD .skip) [1, 1, 1, 1, 0]), (cd (Tryd.f61.body.getD .skip) [1, 1, 1, 1, 1, 0]), (cd (Tryd.f61.body.getD .skip) [1, 1, 1, 1, 1, 1, 0]), (cd (Tryd.f61.body.getD .skip) [1, 1, 1, 1, 1, 1, 1, 0]), (cd (Tryd.f61.body.getD .skip) [1, 1, 1, 1, 1, 1, 1, 1])] (fun _ _ => False) (fun i => (fun _ _ => False)) (s61_R K)
theorem s61_p1_ok (K : Value → World → Prop) (s : Nat → Value) (w : World) (h : s61_p1 K (s 0) w) : Tr (s61_p1_den K s w) :=
  tr_simple (P := Tryd.prog) (codes := [(cd (Tryd.f61.body.getD .skip) [0]), (cd (Tryd.f61.body.getD .skip) [1, 0]), (cd (Tryd.f61.body.getD .skip) [1, 1, 0]), (cd (Tryd.f61.body.getD .skip) [1, 1, 1, 0]), (cd (Tryd.f61.body.getD .skip) [1, 1, 1, 1, 0]), (cd (Tryd.f61.body.getD .skip) [1, 1, 1, 1, 1, 0]), (cd (Tryd.f61.body.getD .skip) [1, 1, 1, 1, 1, 1, 0]), (cd (Tryd.f61.body.getD .skip) [1, 1, 1, 1, 1, 1, 1, 0]), (cd (Tryd.f61.body.getD .skip) [1, 1, 1, 1, 1, 1, 1, 1])]) (N := (fun _ _ => False)) (N' := (fun _ _ => False)) (X := (fun i => (fun _ _ => False))) (X' := (fun i => (fun _ _ => False))) (R := s61_R K) (s := s) (w := w) (p := s61_p1 K (s 0) w) (q := s61_p1_den K s w) tr_id (fun i => tr_id) (by kernel_rfl) (by kernel_rfl) @h
/-- the call, from the text -/
theorem c61 (t0 : Value) {K : Value → World → Prop} {w : World} (h : s61_p1 K t0 w) : cl Tryd.prog 61 #[t0] K w :=
  calls_of_tr (c := (Tryd.f61.body.getD .skip)) (fn := Tryd.f61) (q := s61_p1_den K (st0 #[t0]) w) Tryd.func61 (by kernel_rfl) (by kernel_rfl) (Nat.le_of_ble_eq_true (by kernel_rfl)) (by kernel_rfl) (by kernel_rfl) (s61_p1_ok K (st0 #[t0]) w @h)

/-! ### function 62 : (*e2e.pool.shape).seal -/
def s62_R (K : Value → World → Prop) (s : Nat → Value) (w : World) : Prop := retv Tryd.prog s Tryd.f62.results.toList (fun vs => K (pack vs) w) w
def s62_p1 (K : Value → World → Prop) (t2 : Value) (w : World) : Prop :=
  K t2 w
def s62_p1_den (K : Value → World → Prop) : (Nat → Value) → World → Prop := denL Tryd.prog [(cd (Tryd.f62.body.getD .skip) [1, 1])] (fun _ _ => False) (fun i => (fun _ _ => False)) (s62_R K)
theorem s62_p1_ok (K : Value → World → Prop) (s : Nat → Value) (w : World) (h : s62_p1 K (s 2) w) : Tr (s62_p1_den K s w) :=
  tr_simple (P := Tryd.prog) (codes := [(cd (Tryd.f62.body.getD .skip) [1, 1])]) (N := (fun _ _ => False)) (N' := (fun _ _ => False)) (X := (fun i => (fun _ _ => False))) (X' := (fun i => (fun _ _ => False))) (R := s62_R K) (s := s) (w := w) (p := s62_p1 K (s 2) w) (q := s62_p1_den K s w) tr_id (fun i => tr_id) (by kernel_rfl) (by kernel_rfl) @h
def s62_p2_d (K : Value → World → Prop) (t0 : Value) (w0 w : World) : Prop :=
  nck t0 (fun t4 _ =>
  fd 0 t4 (fun t5 _ =>
  ld1 t5 (fun t6 _ =>
  cvi .u64 t6 (fun t7 _ =>
  boI .shl t7 (.int .u64 32) (fun t8 _ =>
  boI .xor (.int .u64 11400714819323198485) t8 (fun t9 _ =>
  nck t0 (fun t11 _ =>
  fd 4 t11 (fun t12 _ =>
  ld1 t12 (fun t13 _ =>
  cvi .u64 t13 (fun t14 _ =>
  boI .shl t14 (.int .u64 17) (fun t15 _ =>
  boI .xor t9 t15 (fun t16 _ =>
  nck t0 (fun t18 _ =>
  fd 5 t18 (fun t19 _ =>
  ld1 t19 (fun t20 _ =>
  cvi .u64 t20 (fun t21 _ =>
  boI .xor t16 t21 (fun t22 _ =>
  s62_p1 K t22 w) w0) w0) w0) w0) w0) w0) w0) w0) w0) w0) w0) w0) w0) w0) w0) w0) w0
def s62_p2 (K : Value → World → Prop) (t0 : Value) (w : World) : Prop := s62_p2_d K t0 (drw w) (drw w)
def s62_p2_den (K : Value → World → Prop) : (Nat → Value) → World → Prop := denL Tryd.prog [(cd (Tryd.f62.body.getD .skip) [1, 0])] (s62_p1_den K) (fun i => (fun _ _ => False)) (s62_R K)
theorem s62_p2_ok (K : Value → World → Prop) (s : Nat → Value) (w : World) (h : s62_p2 K (s 0) w) : Tr (s62_p2_den K s w) :=
  tr_draw (P := Tryd.prog) (ops := (ro (cd (Tryd.f62.body.getD .skip) [1, 0]))) (ms := [0, 1, 3, 7, 15, 31, 63, 0, 128, 384, 896, 1920, 3968, 8191, 0, 16384, 49152, 114688, 245760, 524287, 1048575]) (cs := [0, 1, 2, 3, 4, 5, 6, 7, 8, 9, 10, 11, 12, 13, 14, 15, 16, 17, 18, 19, 20]) (N := (fun s w => s62_p1 K (s 2) w)) (N' := (s62_p1_den K)) (s := s) (w := w) (p := s62_p2 K (s 0) w) (q := s62_p2_den K s w) (by kernel_rfl) (by kernel_rfl) (fun s w h => s62_p1_ok K s w @h) (by kernel_rfl) (by kernel_rfl) @h
def s62_p3 (K : Value → World → Prop) (t0 : Value) (w : World) : Prop :=
  s62_p2 K t0 w
def s62_p3_den (K : Value → World → Prop) : (Nat → Value) → World → Prop := denL Tryd.prog [(cd (Tryd.f62.body.getD .skip) [0])] (s62_p2_den K) (fun i => (fun _ _ => False)) (s62_R K)
theorem s62_p3_ok (K : Value → World → Prop) (s : Nat → Value) (w : World) (h : s62_p3 K (s 0) w) : Tr (s62_p3_den K s w) :=
  tr_simple (P := Tryd.prog) (codes := [(cd (Tryd.f62.body.getD .skip) [0])]) (N := (fun s w => s62_p2 K (s 0) w)) (N' := (s62_p2_den K)) (X := (fun i => (fun _ _ => False))) (X' := (fun i => (fun _ _ => False))) (R := s62_R K) (s := s) (w := w) (p := s62_p3 K (s 0) w) (q := s62_p3_den K s w) (fun s w h => s62_p2_ok K s w @h) (fun i => tr_id) (by kernel_rfl) (by kernel_rfl) @h
/-- the call, from the text -/
theorem c62 (t0 : Value) {K : Value → World → Prop} {w : World} (h : s62_p3 K t0 w) : cl Tryd.prog 62 #[t0] K w :=
  calls_of_tr (c := (Tryd.f62.body.getD .skip)) (fn := Tryd.f62) (q := s62_p3_den K (st0 #[t0]) w) Tryd.func62 (by kernel_rfl) (by kernel_rfl) (Nat.le_of_ble_eq_true (by kernel_rfl)) (by kernel_rfl) (by kernel_rfl) (s62_p3_ok K (st0 #[t0]) w @h)

end Go.Proofs.Qxb6500893aDoor
