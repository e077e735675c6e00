import Derived.Test.Qxb6500896aGreatDoorProg
import Derived.Test.Qxb6500896aGreatDoorShMix3
namespace Go.Proofs.Qxb6500896aGreatDoor
open Go.Sh Go.RowKit
set_option linter.unusedVariables false
set_option maxRecDepth 100000

/-! ### function 3 : e2e.enginelaw.Conservation -/
def s3_R (K : Value → World → Prop) (s : Nat → Value) (w : World) : Prop := retv Tryz.prog s Tryz.f3.results.toList (fun vs => K (pack vs) w) w
def s3_p1 (K : Value → World → Prop) (w : World) : Prop :=
  K (.bool true) w
def s3_p1_den (K : Value → World → Prop) : (Nat → Value) → World → Prop := denL Tryz.prog [(cd (Tryz.f3.body.getD .skip) [1, 1, 1, 1, 1, 1, 1, 0]), (cd (Tryz.f3.body.getD .skip) [1, 1, 1, 1, 1, 1, 1, 1])] (fun _ _ => False) (fun i => (fun _ _ => False)) (s3_R K)
theorem s3_p1_ok (K : Value → World → Prop) (s : Nat → Value) (w : World) (h : s3_p1 K w) : Tr (s3_p1_den K s w) :=
  tr_simple (P := Tryz.prog) (codes := [(cd (Tryz.f3.body.getD .skip) [1, 1, 1, 1, 1, 1, 1, 0]), (cd (Tryz.f3.body.getD .skip) [1, 1, 1, 1, 1, 1, 1, 1])]) (N := (fun _ _ => False)) (N' := (fun _ _ => False)) (X := (fun i => (fun _ _ => False))) (X' := (fun i => (fun _ _ => False))) (R := s3_R K) (s := s) (w := w) (p := s3_p1 K w) (q := s3_p1_den K s w) tr_id (fun i => tr_id) (by kernel_rfl) (by kernel_rfl) @h
def s3_p2 (K : Value → World → Prop) (B1 : List Value → World → Prop) (t3 t4 t5 t6 t30 t31 t32 : Value) (w : World) : Prop :=
  boI .add t32 (.int .i64 1) (fun t276 w =>
  B1 [t3, t4, t5, t6, t30, t31, t276] w) w
def s3_p2_den (K : Value → World → Prop) (M1 : (Nat → Value) → World → Prop) : (Nat → Value) → World → Prop := denL Tryz.prog [(cd (Tryz.f3.body.getD .skip) [1, 1, 1, 1, 1, 1, 0, 1, 0, 0, 1, 1, 1])] M1 (fun i => (bif Nat.beq i 0 then (s3_p1_den K) else (fun _ _ => False))) (s3_R K)
theorem s3_p2_ok (K : Value → World → Prop) (B1 : List Value → World → Prop) (s : Nat → Value) (w : World) (h : s3_p2 K B1 (s 3) (s 4) (s 5) (s 6) (s 30) (s 31) (s 32) w) : Tr (s3_p2_den K (fun s w => B1 [s 3, s 4, s 5, s 6, s 30, s 31, s 32] w) s w) :=
  tr_simple (P := Tryz.prog) (codes := [(cd (Tryz.f3.body.getD .skip) [1, 1, 1, 1, 1, 1, 0, 1, 0, 0, 1, 1, 1])]) (N := (fun s w => B1 [s 3, s 4, s 5, s 6, s 30, s 31, s 32] w)) (N' := (fun s w => B1 [s 3, s 4, s 5, s 6, s 30, s 31, s 32] w)) (X := (fun i => (bif Nat.beq i 0 then (fun s w => s3_p1 K w) else (fun _ _ => False)))) (X' := (fun i => (bif Nat.beq i 0 then (s3_p1_den K) else (fun _ _ => False)))) (R := s3_R K) (s := s) (w := w) (p := s3_p2 K B1 (s 3) (s 4) (s 5) (s 6) (s 30) (s 31) (s 32) w) (q := s3_p2_den K (fun s w => B1 [s 3, s 4, s 5, s 6, s 30, s 31, s 32] w) s w) tr_id (fun i => (tr_bif (fun s w h => s3_p1_ok K s w @h) tr_id)) (by kernel_rfl) (by kernel_rfl) @h
def s3_p3 (K : Value → World → Prop) (B1 : List Value → World → Prop) (t3 t4 t6 t13 t30 t31 t32 : Value) (w : World) : Prop :=
  s3_p2 K B1 t3 t4 t13 t6 t30 t31 t32 w
def s3_p3_den (K : Value → World → Prop) (M1 : (Nat → Value) → World → Prop) : (Nat → Value) → World → Prop := denL Tryz.prog [(cd (Tryz.f3.body.getD .skip) [1, 1, 1, 1, 1, 1, 0, 1, 0, 0, 1, 1, 0, 0, 1, 1, 1, 1, 1, 1, 1, 1, 1, 1, 1])] (s3_p2_den K M1) (fun i => (bif Nat.beq i 1 then (s3_p2_den K M1) else (bif Nat.beq i 0 then (s3_p1_den K) else (fun _ _ => False)))) (s3_R K)
theorem s3_p3_ok (K : Value → World → Prop) (B1 : List Value → World → Prop) (s : Nat → Value) (w : World) (h : s3_p3 K B1 (s 3) (s 4) (s 6) (s 13) (s 30) (s 31) (s 32) w) : Tr (s3_p3_den K (fun s w => B1 [s 3, s 4, s 5, s 6, s 30, s 31, s 32] w) s w) :=
  tr_simple (P := Tryz.prog) (codes := [(cd (Tryz.f3.body.getD .skip) [1, 1, 1, 1, 1, 1, 0, 1, 0, 0, 1, 1, 0, 0, 1, 1, 1, 1, 1, 1, 1, 1, 1, 1, 1])]) (N := (fun s w => s3_p2 K B1 (s 3) (s 4) (s 5) (s 6) (s 30) (s 31) (s 32) w)) (N' := (s3_p2_den K (fun s w => B1 [s 3, s 4, s 5, s 6, s 30, s 31, s 32] w))) (X := (fun i => (bif Nat.beq i 1 then (fun s w => s3_p2 K B1 (s 3) (s 4) (s 5) (s 6) (s 30) (s 31) (s 32) w) else (bif Nat.beq i 0 then (fun s w => s3_p1 K w) else (fun _ _ => False))))) (X' := (fun i => (bif Nat.beq i 1 then (s3_p2_den K (fun s w => B1 [s 3, s 4, s 5, s 6, s 30, s 31, s 32] w)) else (bif Nat.beq i 0 then (s3_p1_den K) else (fun _ _ => False))))) (R := s3_R K) (s := s) (w := w) (p := s3_p3 K B1 (s 3) (s 4) (s 6) (s 13) (s 30) (s 31) (s 32) w) (q := s3_p3_den K (fun s w => B1 [s 3, s 4, s 5, s 6, s 30, s 31, s 32] w) s w) (fun s w h => s3_p2_ok K B1 s w @h) (fun i => (tr_bif (fun s w h => s3_p2_ok K B1 s w @h) (tr_bif (fun s w h => s3_p1_ok K s w @h) tr_id))) (by kernel_rfl) (by kernel_rfl) @h
def s3_p4 (K : Value → World → Prop) (B1 : List Value → World → Prop) (t3 t4 t5 t6 t9 t10 t11 t13 t30 t31 t32 : Value) (w : World) : Prop :=
  gd t11 true (fd 0 t10) (fun t237 w =>
  gd t11 true (ld1 t237) (fun t238 w =>
  gd t11 true (boI .eql t238 (.int .u8 5)) (fun t239 w =>
  pk t11 t239 (.bool false) (fun t240 w =>
  gd t240 true (fd 1 t10) (fun t242 w =>
  gd t240 true (ld1 t242) (fun t243 w =>
  gd t240 true (boI .geq t243 (.int .i64 1)) (fun t244 w =>
  pk t240 t244 (.bool false) (fun t245 w =>
  gd t245 true (fd 1 t10) (fun t247 w =>
  gd t245 true (ld1 t247) (fun t248 w =>
  gd t245 true (fun K w => K t5 w) (fun t249 w =>
  gd t245 true (lnS t249) (fun t250 w =>
  gd t245 true (boI .leq t248 t250) (fun t251 w =>
  pk t245 t251 (.bool false) (fun t252 w =>
  ifb t252
  (fd 1 t10 (fun t254 w =>
  ld1 t254 (fun t255 w =>
  boI .sub t255 (.int .i64 1) (fun t256 w =>
  ixs 7 t5 t256 (fun t257 w =>
  fd 6 t257 (fun t258 w =>
  ld1 t258 (fun t259 w =>
  fd 0 t9 (fun t260 w =>
  ld1 t260 (fun t261 w =>
  boI .eql t261 (.int .i64 0) (fun t262 w =>
  ifb t262
  (fd 7 t10 (fun t263 w =>
  ld1 t263 (fun t264 w =>
  fd 1 t10 (fun t266 w =>
  ld1 t266 (fun t267 w =>
  boI .sub t267 (.int .i64 1) (fun t268 w =>
  ixs 7 t13 t268 (fun t269 w =>
  fd 6 t269 (fun t270 w =>
  ld1 t270 (fun t271 w =>
  cl Tryz.prog 19 #[t271, t264] (fun t273 w =>
  un .not t273 (fun t274 w =>
  ifb t274
  (K (.bool false) w)
  (s3_p3 K B1 t3 t4 t6 t13 t30 t31 t32 w)) w) w) w) w) w) w) w) w) w) w)
  (fd 1 t10 (fun t266_2 w =>
  ld1 t266_2 (fun t267_2 w =>
  boI .sub t267_2 (.int .i64 1) (fun t268_2 w =>
  ixs 7 t13 t268_2 (fun t269_2 w =>
  fd 6 t269_2 (fun t270_2 w =>
  ld1 t270_2 (fun t271_2 w =>
  cl Tryz.prog 19 #[t271_2, t259] (fun t273_2 w =>
  un .not t273_2 (fun t274_2 w =>
  ifb t274_2
  (K (.bool false) w)
  (s3_p3 K B1 t3 t4 t6 t13 t30 t31 t32 w)) w) w) w) w) w) w) w) w)) w) w) w) w) w) w) w) w) w)
  (s3_p3 K B1 t3 t4 t6 t13 t30 t31 t32 w)) w) w) w) w) w) w) w) w) w) w) w) w) w) w
def s3_p4_den (K : Value → World → Prop) (M1 : (Nat → Value) → World → Prop) : (Nat → Value) → World → Prop := denL Tryz.prog [(cd (Tryz.f3.body.getD .skip) [1, 1, 1, 1, 1, 1, 0, 1, 0, 0, 1, 1, 0, 0, 1, 1, 1, 1, 1, 1, 1, 1, 1, 1, 0, 0]), (cd (Tryz.f3.body.getD .skip) [1, 1, 1, 1, 1, 1, 0, 1, 0, 0, 1, 1, 0, 0, 1, 1, 1, 1, 1, 1, 1, 1, 1, 1, 0, 1])] (s3_p3_den K M1) (fun i => (bif Nat.beq i 1 then (s3_p2_den K M1) else (bif Nat.beq i 0 then (s3_p1_den K) else (fun _ _ => False)))) (s3_R K)
theorem s3_p4_ok (K : Value → World → Prop) (B1 : List Value → World → Prop) (s : Nat → Value) (w : World) (h : s3_p4 K B1 (s 3) (s 4) (s 5) (s 6) (s 9) (s 10) (s 11) (s 13) (s 30) (s 31) (s 32) w) : Tr (s3_p4_den K (fun s w => B1 [s 3, s 4, s 5, s 6, s 30, s 31, s 32] w) s w) :=
  tr_simple (P := Tryz.prog) (codes := [(cd (Tryz.f3.body.getD .skip) [1, 1, 1, 1, 1, 1, 0, 1, 0, 0, 1, 1, 0, 0, 1, 1, 1, 1, 1, 1, 1, 1, 1, 1, 0, 0]), (cd (Tryz.f3.body.getD .skip) [1, 1, 1, 1, 1, 1, 0, 1, 0, 0, 1, 1, 0, 0, 1, 1, 1, 1, 1, 1, 1, 1, 1, 1, 0, 1])]) (N := (fun s w => s3_p3 K B1 (s 3) (s 4) (s 6) (s 13) (s 30) (s 31) (s 32) w)) (N' := (s3_p3_den K (fun s w => B1 [s 3, s 4, s 5, s 6, s 30, s 31, s 32] w))) (X := (fun i => (bif Nat.beq i 1 then (fun s w => s3_p2 K B1 (s 3) (s 4) (s 5) (s 6) (s 30) (s 31) (s 32) w) else (bif Nat.beq i 0 then (fun s w => s3_p1 K w) else (fun _ _ => False))))) (X' := (fun i => (bif Nat.beq i 1 then (s3_p2_den K (fun s w => B1 [s 3, s 4, s 5, s 6, s 30, s 31, s 32] w)) else (bif Nat.beq i 0 then (s3_p1_den K) else (fun _ _ => False))))) (R := s3_R K) (s := s) (w := w) (p := s3_p4 K B1 (s 3) (s 4) (s 5) (s 6) (s 9) (s 10) (s 11) (s 13) (s 30) (s 31) (s 32) w) (q := s3_p4_den K (fun s w => B1 [s 3, s 4, s 5, s 6, s 30, s 31, s 32] w) s w) (fun s w h => s3_p3_ok K B1 s w @h) (fun i => (tr_bif (fun s w h => s3_p2_ok K B1 s w @h) (tr_bif (fun s w h => s3_p1_ok K s w @h) tr_id))) (by kernel_rfl) (by kernel_rfl) @h
def s3_p5 (K : Value → World → Prop) (B1 : List Value → World → Prop) (t3 t4 t5 t6 t9 t10 t11 t13 t30 t31 t32 : Value) (w : World) : Prop :=
  gd t11 true (fd 0 t9) (fun t200 w =>
  gd t11 true (ld1 t200) (fun t201 w =>
  gd t11 true (boI .eql t201 (.int .i64 0)) (fun t202 w =>
  pk t11 t202 (.bool false) (fun t203 w =>
  gd t203 true (fd 0 t10) (fun t205 w =>
  gd t203 true (ld1 t205) (fun t206 w =>
  gd t203 true (boI .eql t206 (.int .u8 1)) (fun t207 w =>
  gd t203 true (fun K w => K t207 w) (fun t208 w =>
  gd t208 false (fd 0 t10) (fun t209 w =>
  gd t208 false (ld1 t209) (fun t210 w =>
  gd t208 false (boI .eql t210 (.int .u8 6)) (fun t211 w =>
  gd t203 true (pk t208 (.bool true) t211) (fun t212 w =>
  pk t203 t212 (.bool false) (fun t213 w =>
  ifb t213
  (fd 2 t9 (fun t215 w =>
  ld1 t215 (fun t216 w =>
  rs Tryz.prog (Instr.lookup 33 t6 t216 false) (fun t217 w =>
  gd t217 false (fd 2 t9) (fun t219 w =>
  gd t217 false (ld1 t219) (fun t220 w =>
  gd t217 false (fun K w => K t13 w) (fun t221 w =>
  gd t217 false (lnS t221) (fun t222 w =>
  gd t217 false (boI .neq t220 t222) (fun t223 w =>
  pk t217 (.bool true) t223 (fun t224 w =>
  gd t224 false (fd 2 t9) (fun t226 w =>
  gd t224 false (ld1 t226) (fun t227 w =>
  gd t224 false (fun K w => K t5 w) (fun t228 w =>
  gd t224 false (lnS t228) (fun t229 w =>
  gd t224 false (boI .leq t227 t229) (fun t230 w =>
  pk t224 (.bool true) t230 (fun t231 w =>
  ifb t231
  (K (.bool false) w)
  (fd 2 t9 (fun t233 w =>
  ld1 t233 (fun t234 w =>
  ru Tryz.prog (Instr.mapUpdate 33 t6 t234 (.bool true)) (fun w =>
  s3_p4 K B1 t3 t4 t5 t6 t9 t10 t11 t13 t30 t31 t32 w) w) w) w)) w) w) w) w) w) w) w) w) w) w) w) w) w) w) w)
  (s3_p4 K B1 t3 t4 t5 t6 t9 t10 t11 t13 t30 t31 t32 w)) w) w) w) w) w) w) w) w) w) w) w) w) w
def s3_p5_den (K : Value → World → Prop) (M1 : (Nat → Value) → World → Prop) : (Nat → Value) → World → Prop := denL Tryz.prog [(cd (Tryz.f3.body.getD .skip) [1, 1, 1, 1, 1, 1, 0, 1, 0, 0, 1, 1, 0, 0, 1, 1, 1, 1, 1, 1, 1, 1, 1, 0, 0]), (cd (Tryz.f3.body.getD .skip) [1, 1, 1, 1, 1, 1, 0, 1, 0, 0, 1, 1, 0, 0, 1, 1, 1, 1, 1, 1, 1, 1, 1, 0, 1])] (s3_p4_den K M1) (fun i => (bif Nat.beq i 1 then (s3_p2_den K M1) else (bif Nat.beq i 0 then (s3_p1_den K) else (fun _ _ => False)))) (s3_R K)
theorem s3_p5_ok (K : Value → World → Prop) (B1 : List Value → World → Prop) (s : Nat → Value) (w : World) (h : s3_p5 K B1 (s 3) (s 4) (s 5) (s 6) (s 9) (s 10) (s 11) (s 13) (s 30) (s 31) (s 32) w) : Tr (s3_p5_den K (fun s w => B1 [s 3, s 4, s 5, s 6, s 30, s 31, s 32] w) s w) :=
  tr_simple (P := Tryz.prog) (codes := [(cd (Tryz.f3.body.getD .skip) [1, 1, 1, 1, 1, 1, 0, 1, 0, 0, 1, 1, 0, 0, 1, 1, 1, 1, 1, 1, 1, 1, 1, 0, 0]), (cd (Tryz.f3.body.getD .skip) [1, 1, 1, 1, 1, 1, 0, 1, 0, 0, 1, 1, 0, 0, 1, 1, 1, 1, 1, 1, 1, 1, 1, 0, 1])]) (N := (fun s w => s3_p4 K B1 (s 3) (s 4) (s 5) (s 6) (s 9) (s 10) (s 11) (s 13) (s 30) (s 31) (s 32) w)) (N' := (s3_p4_den K (fun s w => B1 [s 3, s 4, s 5, s 6, s 30, s 31, s 32] w))) (X := (fun i => (bif Nat.beq i 1 then (fun s w => s3_p2 K B1 (s 3) (s 4) (s 5) (s 6) (s 30) (s 31) (s 32) w) else (bif Nat.beq i 0 then (fun s w => s3_p1 K w) else (fun _ _ => False))))) (X' := (fun i => (bif Nat.beq i 1 then (s3_p2_den K (fun s w => B1 [s 3, s 4, s 5, s 6, s 30, s 31, s 32] w)) else (bif Nat.beq i 0 then (s3_p1_den K) else (fun _ _ => False))))) (R := s3_R K) (s := s) (w := w) (p := s3_p5 K B1 (s 3) (s 4) (s 5) (s 6) (s 9) (s 10) (s 11) (s 13) (s 30) (s 31) (s 32) w) (q := s3_p5_den K (fun s w => B1 [s 3, s 4, s 5, s 6, s 30, s 31, s 32] w) s w) (fun s w h => s3_p4_ok K B1 s w @h) (fun i => (tr_bif (fun s w h => s3_p2_ok K B1 s w @h) (tr_bif (fun s w h => s3_p1_ok K s w @h) tr_id))) (by kernel_rfl) (by kernel_rfl) @h
def s3_p6 (K : Value → World → Prop) (B1 : List Value → World → Prop) (B2 : List Value → World → Prop) (t3 t4 t5 t6 t9 t10 t11 t13 t30 t31 t32 t93 t94 t95 : Value) (w : World) : Prop :=
  boI .add t95 (.int .i64 1) (fun t197 w =>
  B2 [t3, t4, t5, t6, t9, t10, t11, t13, t30, t31, t32, t93, t94, t197] w) w
def s3_p6_den (K : Value → World → Prop) (M1 : (Nat → Value) → World → Prop) (M2 : (Nat → Value) → World → Prop) : (Nat → Value) → World → Prop := denL Tryz.prog [(cd (Tryz.f3.body.getD .skip) [1, 1, 1, 1, 1, 1, 0, 1, 0, 0, 1, 1, 0, 0, 1, 1, 1, 1, 1, 1, 1, 1, 0, 1, 0, 0, 1, 1, 1])] M2 (fun i => (bif Nat.beq i 3 then (s3_p5_den K M1) else (bif Nat.beq i 1 then (s3_p2_den K M1) else (bif Nat.beq i 0 then (s3_p1_den K) else (fun _ _ => False))))) (s3_R K)
theorem s3_p6_ok (K : Value → World → Prop) (B1 : List Value → World → Prop) (B2 : List Value → World → Prop) (s : Nat → Value) (w : World) (h : s3_p6 K B1 B2 (s 3) (s 4) (s 5) (s 6) (s 9) (s 10) (s 11) (s 13) (s 30) (s 31) (s 32) (s 93) (s 94) (s 95) w) : Tr (s3_p6_den K (fun s w => B1 [s 3, s 4, s 5, s 6, s 30, s 31, s 32] w) (fun s w => B2 [s 3, s 4, s 5, s 6, s 9, s 10, s 11, s 13, s 30, s 31, s 32, s 93, s 94, s 95] w) s w) :=
  tr_simple (P := Tryz.prog) (codes := [(cd (Tryz.f3.body.getD .skip) [1, 1, 1, 1, 1, 1, 0, 1, 0, 0, 1, 1, 0, 0, 1, 1, 1, 1, 1, 1, 1, 1, 0, 1, 0, 0, 1, 1, 1])]) (N := (fun s w => B2 [s 3, s 4, s 5, s 6, s 9, s 10, s 11, s 13, s 30, s 31, s 32, s 93, s 94, s 95] w)) (N' := (fun s w => B2 [s 3, s 4, s 5, s 6, s 9, s 10, s 11, s 13, s 30, s 31, s 32, s 93, s 94, s 95] w)) (X := (fun i => (bif Nat.beq i 3 then (fun s w => s3_p5 K B1 (s 3) (s 4) (s 5) (s 6) (s 9) (s 10) (s 11) (s 13) (s 30) (s 31) (s 32) w) else (bif Nat.beq i 1 then (fun s w => s3_p2 K B1 (s 3) (s 4) (s 5) (s 6) (s 30) (s 31) (s 32) w) else (bif Nat.beq i 0 then (fun s w => s3_p1 K w) else (fun _ _ => False)))))) (X' := (fun i => (bif Nat.beq i 3 then (s3_p5_den K (fun s w => B1 [s 3, s 4, s 5, s 6, s 30, s 31, s 32] w)) else (bif Nat.beq i 1 then (s3_p2_den K (fun s w => B1 [s 3, s 4, s 5, s 6, s 30, s 31, s 32] w)) else (bif Nat.beq i 0 then (s3_p1_den K) else (fun _ _ => False)))))) (R := s3_R K) (s := s) (w := w) (p := s3_p6 K B1 B2 (s 3) (s 4) (s 5) (s 6) (s 9) (s 10) (s 11) (s 13) (s 30) (s 31) (s 32) (s 93) (s 94) (s 95) w) (q := s3_p6_den K (fun s w => B1 [s 3, s 4, s 5, s 6, s 30, s 31, s 32] w) (fun s w => B2 [s 3, s 4, s 5, s 6, s 9, s 10, s 11, s 13, s 30, s 31, s 32, s 93, s 94, s 95] w) s w) tr_id (fun i => (tr_bif (fun s w h => s3_p5_ok K B1 s w @h) (tr_bif (fun s w h => s3_p2_ok K B1 s w @h) (tr_bif (fun s w h => s3_p1_ok K s w @h) tr_id)))) (by kernel_rfl) (by kernel_rfl) @h
def s3_p7 (K : Value → World → Prop) (B1 : List Value → World → Prop) (B2 : List Value → World → Prop) (t3 t4 t5 t6 t9 t10 t11 t13 t30 t31 t32 t93 t94 t95 : Value) (w : World) : Prop :=
  boI .lss t95 t94 (fun t96 w =>
  ifb t96
  (ixs 7 t93 t95 (fun t98 w =>
  ldn 7 t98 (fun t99 w =>
  nw 66 #[(.int .i64 0), (.int .i64 0), (.int .i64 0), (.int .i64 0), (.int .i64 0), (.int .i64 0), (.slice none 0 0)] (fun t16 w =>
  stn 7 t16 t99 (fun w =>
  fd 0 t16 (fun t100 w =>
  ld1 t100 (fun t101 w =>
  boI .add t95 (.int .i64 1) (fun t103 w =>
  boI .neq t101 t103 (fun t104 w =>
  gd t104 false (fd 1 t16) (fun t106 w =>
  gd t104 false (ld1 t106) (fun t107 w =>
  gd t104 false (boI .leq t107 (.int .i64 0)) (fun t108 w =>
  pk t104 (.bool true) t108 (fun t109 w =>
  gd t109 false (fd 1 t16) (fun t111 w =>
  gd t109 false (ld1 t111) (fun t112 w =>
  gd t109 false (boI .geq t112 (.int .i64 10)) (fun t113 w =>
  pk t109 (.bool true) t113 (fun t114 w =>
  ifb t114
  (K (.bool false) w)
  (lnS t5 (fun t117 w =>
  boI .geq t95 t117 (fun t118 w =>
  ifb t118
  (s3_p6 K B1 B2 t3 t4 t5 t6 t9 t10 t11 t13 t30 t31 t32 t93 t94 t95 w)
  (ixs 7 t5 t95 (fun t121 w =>
  ldn 7 t121 (fun t122 w =>
  nw 66 #[(.int .i64 0), (.int .i64 0), (.int .i64 0), (.int .i64 0), (.int .i64 0), (.int .i64 0), (.slice none 0 0)] (fun t17 w =>
  stn 7 t17 t122 (fun w =>
  fd 1 t16 (fun t123 w =>
  ld1 t123 (fun t124 w =>
  fd 1 t17 (fun t125 w =>
  ld1 t125 (fun t126 w =>
  boI .neq t124 t126 (fun t127 w =>
  gd t127 true (fd 1 t17) (fun t129 w =>
  gd t127 true (ld1 t129) (fun t130 w =>
  gd t127 true (fd 1 t16) (fun t131 w =>
  gd t127 true (ld1 t131) (fun t132 w =>
  gd t127 true (cl Tryz.prog 18 #[t130, t132]) (fun t133 w =>
  gd t127 true (un .not t133) (fun t134 w =>
  pk t127 t134 (.bool false) (fun t135 w =>
  ifb t135
  (K (.bool false) w)
  (fd 2 t16 (fun t136 w =>
  ld1 t136 (fun t137 w =>
  fd 2 t17 (fun t138 w =>
  ld1 t138 (fun t139 w =>
  boI .neq t137 t139 (fun t140 w =>
  gd t140 false (fd 3 t16) (fun t142 w =>
  gd t140 false (ld1 t142) (fun t143 w =>
  gd t140 false (fd 3 t17) (fun t144 w =>
  gd t140 false (ld1 t144) (fun t145 w =>
  gd t140 false (boI .neq t143 t145) (fun t146 w =>
  pk t140 (.bool true) t146 (fun t147 w =>
  gd t147 false (fd 4 t16) (fun t149 w =>
  gd t147 false (ld1 t149) (fun t150 w =>
  gd t147 false (fd 4 t17) (fun t151 w =>
  gd t147 false (ld1 t151) (fun t152 w =>
  gd t147 false (boI .neq t150 t152) (fun t153 w =>
  pk t147 (.bool true) t153 (fun t154 w =>
  gd t154 false (fd 5 t16) (fun t156 w =>
  gd t154 false (ld1 t156) (fun t157 w =>
  gd t154 false (fd 5 t17) (fun t158 w =>
  gd t154 false (ld1 t158) (fun t159 w =>
  gd t154 false (boI .neq t157 t159) (fun t160 w =>
  pk t154 (.bool true) t160 (fun t161 w =>
  ifb t161
  (K (.bool false) w)
  (fd 6 t16 (fun t162 w =>
  ld1 t162 (fun t163 w =>
  fd 6 t17 (fun t164 w =>
  ld1 t164 (fun t165 w =>
  cl Tryz.prog 19 #[t163, t165] (fun t166 w =>
  un .not t166 (fun t167 w =>
  ifb t167
  (fd 1 t17 (fun t168 w =>
  ld1 t168 (fun t169 w =>
  boI .eql t169 (.int .i64 7) (fun t170 w =>
  gd t170 true (fd 1 t16) (fun t172 w =>
  gd t170 true (ld1 t172) (fun t173 w =>
  gd t170 true (boI .eql t173 (.int .i64 8)) (fun t174 w =>
  pk t170 t174 (.bool false) (fun t175 w =>
  fd 1 t16 (fun t176 w =>
  ld1 t176 (fun t177 w =>
  fd 1 t17 (fun t178 w =>
  ld1 t178 (fun t179 w =>
  boI .eql t177 t179 (fun t180 w =>
  gd t180 true (fd 1 t16) (fun t182 w =>
  gd t180 true (ld1 t182) (fun t183 w =>
  gd t180 true (boI .eql t183 (.int .i64 1)) (fun t184 w =>
  gd t180 true (fun K w => K t184 w) (fun t185 w =>
  gd t185 false (fd 1 t16) (fun t186 w =>
  gd t185 false (ld1 t186) (fun t187 w =>
  gd t185 false (boI .eql t187 (.int .i64 2)) (fun t188 w =>
  gd t180 true (pk t185 (.bool true) t188) (fun t189 w =>
  pk t180 t189 (.bool false) (fun t190 w =>
  un .not t175 (fun t192 w =>
  gd t192 true (fun K w => K t190 w) (fun t194 w =>
  gd t192 true (un .not t194) (fun t195 w =>
  pk t192 t195 (.bool false) (fun t196 w =>
  ifb t196
  (K (.bool false) w)
  (s3_p6 K B1 B2 t3 t4 t5 t6 t9 t10 t11 t13 t30 t31 t32 t93 t94 t95 w)) w) w) w) w) w) w) w) w) w) w) w) w) w) w) w) w) w) w) w) w) w) w) w) w) w)
  (s3_p6 K B1 B2 t3 t4 t5 t6 t9 t10 t11 t13 t30 t31 t32 t93 t94 t95 w)) w) w) w) w) w) w)) w) w) w) w) w) w) w) w) w) w) w) w) w) w) w) w) w) w) w) w) w) w) w)) w) w) w) w) w) w) w) w) w) w) w) w) w) w) w) w)) w) w)) w) w) w) w) w) w) w) w) w) w) w) w) w) w) w) w)
  (s3_p5 K B1 t3 t4 t5 t6 t9 t10 t11 t13 t30 t31 t32 w)) w
def s3_p7_den (K : Value → World → Prop) (M1 : (Nat → Value) → World → Prop) (M2 : (Nat → Value) → World → Prop) : (Nat → Value) → World → Prop := denL Tryz.prog [(cd (Tryz.f3.body.getD .skip) [1, 1, 1, 1, 1, 1, 0, 1, 0, 0, 1, 1, 0, 0, 1, 1, 1, 1, 1, 1, 1, 1, 0, 1, 0, 0, 0]), (cd (Tryz.f3.body.getD .skip) [1, 1, 1, 1, 1, 1, 0, 1, 0, 0, 1, 1, 0, 0, 1, 1, 1, 1, 1, 1, 1, 1, 0, 1, 0, 0, 1, 0]), (cd (Tryz.f3.body.getD .skip) [1, 1, 1, 1, 1, 1, 0, 1, 0, 0, 1, 1, 0, 0, 1, 1, 1, 1, 1, 1, 1, 1, 0, 1, 0, 0, 1, 1, 0])] (s3_p6_den K M1 M2) (fun i => (bif Nat.beq i 3 then (s3_p5_den K M1) else (bif Nat.beq i 1 then (s3_p2_den K M1) else (bif Nat.beq i 0 then (s3_p1_den K) else (fun _ _ => False))))) (s3_R K)
theorem s3_p7_ok (K : Value → World → Prop) (B1 : List Value → World → Prop) (B2 : List Value → World → Prop) (s : Nat → Value) (w : World) (h : s3_p7 K B1 B2 (s 3) (s 4) (s 5) (s 6) (s 9) (s 10) (s 11) (s 13) (s 30) (s 31) (s 32) (s 93) (s 94) (s 95) w) : Tr (s3_p7_den K (fun s w => B1 [s 3, s 4, s 5, s 6, s 30, s 31, s 32] w) (fun s w => B2 [s 3, s 4, s 5, s 6, s 9, s 10, s 11, s 13, s 30, s 31, s 32, s 93, s 94, s 95] w) s w) :=
  tr_simple (P := Tryz.prog) (codes := [(cd (Tryz.f3.body.getD .skip) [1, 1, 1, 1, 1, 1, 0, 1, 0, 0, 1, 1, 0, 0, 1, 1, 1, 1, 1, 1, 1, 1, 0, 1, 0, 0, 0]), (cd (Tryz.f3.body.getD .skip) [1, 1, 1, 1, 1, 1, 0, 1, 0, 0, 1, 1, 0, 0, 1, 1, 1, 1, 1, 1, 1, 1, 0, 1, 0, 0, 1, 0]), (cd (Tryz.f3.body.getD .skip) [1, 1, 1, 1, 1, 1, 0, 1, 0, 0, 1, 1, 0, 0, 1, 1, 1, 1, 1, 1, 1, 1, 0, 1, 0, 0, 1, 1, 0])]) (N := (fun s w => s3_p6 K B1 B2 (s 3) (s 4) (s 5) (s 6) (s 9) (s 10) (s 11) (s 13) (s 30) (s 31) (s 32) (s 93) (s 94) (s 95) w)) (N' := (s3_p6_den K (fun s w => B1 [s 3, s 4, s 5, s 6, s 30, s 31, s 32] w) (fun s w => B2 [s 3, s 4, s 5, s 6, s 9, s 10, s 11, s 13, s 30, s 31, s 32, s 93, s 94, s 95] w))) (X := (fun i => (bif Nat.beq i 3 then (fun s w => s3_p5 K B1 (s 3) (s 4) (s 5) (s 6) (s 9) (s 10) (s 11) (s 13) (s 30) (s 31) (s 32) w) else (bif Nat.beq i 1 then (fun s w => s3_p2 K B1 (s 3) (s 4) (s 5) (s 6) (s 30) (s 31) (s 32) w) else (bif Nat.beq i 0 then (fun s w => s3_p1 K w) else (fun _ _ => False)))))) (X' := (fun i => (bif Nat.beq i 3 then (s3_p5_den K (fun s w => B1 [s 3, s 4, s 5, s 6, s 30, s 31, s 32] w)) else (bif Nat.beq i 1 then (s3_p2_den K (fun s w => B1 [s 3, s 4, s 5, s 6, s 30, s 31, s 32] w)) else (bif Nat.beq i 0 then (s3_p1_den K) else (fun _ _ => False)))))) (R := s3_R K) (s := s) (w := w) (p := s3_p7 K B1 B2 (s 3) (s 4) (s 5) (s 6) (s 9) (s 10) (s 11) (s 13) (s 30) (s 31) (s 32) (s 93) (s 94) (s 95) w) (q := s3_p7_den K (fun s w => B1 [s 3, s 4, s 5, s 6, s 30, s 31, s 32] w) (fun s w => B2 [s 3, s 4, s 5, s 6, s 9, s 10, s 11, s 13, s 30, s 31, s 32, s 93, s 94, s 95] w) s w) (fun s w h => s3_p6_ok K B1 B2 s w @h) (fun i => (tr_bif (fun s w h => s3_p5_ok K B1 s w @h) (tr_bif (fun s w h => s3_p2_ok K B1 s w @h) (tr_bif (fun s w h => s3_p1_ok K s w @h) tr_id)))) (by kernel_rfl) (by kernel_rfl) @h
def s3_p8_F (K : Value → World → Prop) (B1 : List Value → World → Prop) (B2 : List Value → World → Prop) (l : List Value) (w : World) : Prop :=
  match l with
  | [t3, t4, t5, t6, t9, t10, t11, t13, t30, t31, t32, t93, t94, t95] => s3_p7 K B1 B2 t3 t4 t5 t6 t9 t10 t11 t13 t30 t31 t32 t93 t94 t95 w
  | _ => False
theorem s3_p8_Fe {K : Value → World → Prop} {B1 : List Value → World → Prop} {B2 : List Value → World → Prop} {t3 t4 t5 t6 t9 t10 t11 t13 t30 t31 t32 t93 t94 t95 : Value} {w : World} : s3_p8_F K B1 B2 [t3, t4, t5, t6, t9, t10, t11, t13, t30, t31, t32, t93, t94, t95] w = s3_p7 K B1 B2 t3 t4 t5 t6 t9 t10 t11 t13 t30 t31 t32 t93 t94 t95 w := by kernel_rfl
def s3_p8 (K : Value → World → Prop) (B1 : List Value → World → Prop) (t3 t4 t5 t6 t9 t10 t11 t13 t30 t31 t32 t93 t94 t95 : Value) (w : World) : Prop :=
  LoopL (s3_p8_F K B1) [t3, t4, t5, t6, t9, t10, t11, t13, t30, t31, t32, t93, t94, t95] w
def s3_p8_den (K : Value → World → Prop) (M1 : (Nat → Value) → World → Prop) : (Nat → Value) → World → Prop := fun s w => LoopP (fun M2 s w => s3_p7_den K M1 M2 s w) s w
theorem s3_p8_ok (K : Value → World → Prop) (B1 : List Value → World → Prop) (s : Nat → Value) (w : World) (h : s3_p8 K B1 (s 3) (s 4) (s 5) (s 6) (s 9) (s 10) (s 11) (s 13) (s 30) (s 31) (s 32) (s 93) (s 94) (s 95) w) : Tr (s3_p8_den K (fun s w => B1 [s 3, s 4, s 5, s 6, s 30, s 31, s 32] w) s w) :=
  tr_loop (G := fun N' s w => s3_p7_den K (fun s w => B1 [s 3, s 4, s 5, s 6, s 30, s 31, s 32] w) N' s w) (F := s3_p8_F K B1) (sel := fun s => [s 3, s 4, s 5, s 6, s 9, s 10, s 11, s 13, s 30, s 31, s 32, s 93, s 94, s 95]) (s := s) (w := w) (p := s3_p8 K B1 (s 3) (s 4) (s 5) (s 6) (s 9) (s 10) (s 11) (s 13) (s 30) (s 31) (s 32) (s 93) (s 94) (s 95) w) (q := s3_p8_den K (fun s w => B1 [s 3, s 4, s 5, s 6, s 30, s 31, s 32] w) s w) (fun B s w h => s3_p7_ok K B1 B s w @h) (by kernel_rfl) (by kernel_rfl) @h
def s3_p9 (K : Value → World → Prop) (B1 : List Value → World → Prop) (t3 t4 t5 t6 t9 t10 t11 t30 t31 t32 : Value) (w : World) : Prop :=
  cl Tryz.prog 12 #[t3] (fun t77 w =>
  un .not t77 (fun t78 w =>
  ifb t78
  (s3_p2 K B1 t3 t4 t5 t6 t30 t31 t32 w)
  (cl Tryz.prog 17 #[t4] (fun t81 w =>
  exq t81 0 (fun t82 w =>
  exq t81 1 (fun t83 w =>
  boF Tryz.prog true .neq t83 .nilIface (fun t85 w =>
  gd t85 false (fun K w => K t82 w) (fun t87 w =>
  gd t85 false (lnS t87) (fun t88 w =>
  gd t85 false (fun K w => K t5 w) (fun t89 w =>
  gd t85 false (lnS t89) (fun t90 w =>
  gd t85 false (boI .lss t88 t90) (fun t91 w =>
  pk t85 (.bool true) t91 (fun t92 w =>
  ifb t92
  (K (.bool false) w)
  (lnS t82 (fun t94 w =>
  s3_p8 K B1 t3 t4 t5 t6 t9 t10 t11 t82 t30 t31 t32 t82 t94 (.int .i64 0) w) w)) w) w) w) w) w) w) w) w) w) w)) w) w
def s3_p9_den (K : Value → World → Prop) (M1 : (Nat → Value) → World → Prop) : (Nat → Value) → World → Prop := denL Tryz.prog [(cd (Tryz.f3.body.getD .skip) [1, 1, 1, 1, 1, 1, 0, 1, 0, 0, 1, 1, 0, 0, 1, 1, 1, 1, 1, 0, 0]), (cd (Tryz.f3.body.getD .skip) [1, 1, 1, 1, 1, 1, 0, 1, 0, 0, 1, 1, 0, 0, 1, 1, 1, 1, 1, 0, 1]), (cd (Tryz.f3.body.getD .skip) [1, 1, 1, 1, 1, 1, 0, 1, 0, 0, 1, 1, 0, 0, 1, 1, 1, 1, 1, 1, 0]), (cd (Tryz.f3.body.getD .skip) [1, 1, 1, 1, 1, 1, 0, 1, 0, 0, 1, 1, 0, 0, 1, 1, 1, 1, 1, 1, 1, 0, 0]), (cd (Tryz.f3.body.getD .skip) [1, 1, 1, 1, 1, 1, 0, 1, 0, 0, 1, 1, 0, 0, 1, 1, 1, 1, 1, 1, 1, 0, 1]), (cd (Tryz.f3.body.getD .skip) [1, 1, 1, 1, 1, 1, 0, 1, 0, 0, 1, 1, 0, 0, 1, 1, 1, 1, 1, 1, 1, 1, 0, 0])] (s3_p8_den K M1) (fun i => (bif Nat.beq i 1 then (s3_p2_den K M1) else (bif Nat.beq i 0 then (s3_p1_den K) else (fun _ _ => False)))) (s3_R K)
theorem s3_p9_ok (K : Value → World → Prop) (B1 : List Value → World → Prop) (s : Nat → Value) (w : World) (h : s3_p9 K B1 (s 3) (s 4) (s 5) (s 6) (s 9) (s 10) (s 11) (s 30) (s 31) (s 32) w) : Tr (s3_p9_den K (fun s w => B1 [s 3, s 4, s 5, s 6, s 30, s 31, s 32] w) s w) :=
  tr_simple (P := Tryz.prog) (codes := [(cd (Tryz.f3.body.getD .skip) [1, 1, 1, 1, 1, 1, 0, 1, 0, 0, 1, 1, 0, 0, 1, 1, 1, 1, 1, 0, 0]), (cd (Tryz.f3.body.getD .skip) [1, 1, 1, 1, 1, 1, 0, 1, 0, 0, 1, 1, 0, 0, 1, 1, 1, 1, 1, 0, 1]), (cd (Tryz.f3.body.getD .skip) [1, 1, 1, 1, 1, 1, 0, 1, 0, 0, 1, 1, 0, 0, 1, 1, 1, 1, 1, 1, 0]), (cd (Tryz.f3.body.getD .skip) [1, 1, 1, 1, 1, 1, 0, 1, 0, 0, 1, 1, 0, 0, 1, 1, 1, 1, 1, 1, 1, 0, 0]), (cd (Tryz.f3.body.getD .skip) [1, 1, 1, 1, 1, 1, 0, 1, 0, 0, 1, 1, 0, 0, 1, 1, 1, 1, 1, 1, 1, 0, 1]), (cd (Tryz.f3.body.getD .skip) [1, 1, 1, 1, 1, 1, 0, 1, 0, 0, 1, 1, 0, 0, 1, 1, 1, 1, 1, 1, 1, 1, 0, 0])]) (N := (fun s w => s3_p8 K B1 (s 3) (s 4) (s 5) (s 6) (s 9) (s 10) (s 11) (s 13) (s 30) (s 31) (s 32) (s 93) (s 94) (s 95) w)) (N' := (s3_p8_den K (fun s w => B1 [s 3, s 4, s 5, s 6, s 30, s 31, s 32] w))) (X := (fun i => (bif Nat.beq i 1 then (fun s w => s3_p2 K B1 (s 3) (s 4) (s 5) (s 6) (s 30) (s 31) (s 32) w) else (bif Nat.beq i 0 then (fun s w => s3_p1 K w) else (fun _ _ => False))))) (X' := (fun i => (bif Nat.beq i 1 then (s3_p2_den K (fun s w => B1 [s 3, s 4, s 5, s 6, s 30, s 31, s 32] w)) else (bif Nat.beq i 0 then (s3_p1_den K) else (fun _ _ => False))))) (R := s3_R K) (s := s) (w := w) (p := s3_p9 K B1 (s 3) (s 4) (s 5) (s 6) (s 9) (s 10) (s 11) (s 30) (s 31) (s 32) w) (q := s3_p9_den K (fun s w => B1 [s 3, s 4, s 5, s 6, s 30, s 31, s 32] w) s w) (fun s w h => s3_p8_ok K B1 s w @h) (fun i => (tr_bif (fun s w h => s3_p2_ok K B1 s w @h) (tr_bif (fun s w h => s3_p1_ok K s w @h) tr_id))) (by kernel_rfl) (by kernel_rfl) @h
def s3_p10 (K : Value → World → Prop) (B1 : List Value → World → Prop) (t3 t4 t5 t6 t8 t9 t10 t11 t30 t31 t32 : Value) (w : World) : Prop :=
  fd 1 t8 (fun t42 w =>
  ld1 t42 (fun t43 w =>
  cl Tryz.prog 11 #[t3, t43] (fun t44 w =>
  cl Tryz.prog 12 #[t3] (fun t46 w =>
  ifb t46
  (fd 1 t8 (fun t48 w =>
  ld1 t48 (fun t49 w =>
  cl Tryz.prog 13 #[t49] (fun t50 w =>
  exq t50 0 (fun t51 w =>
  exq t50 1 (fun t52 w =>
  stn 8 t10 t51 (fun w =>
  cl Tryz.prog 14 #[t44] (fun t55 w =>
  exq t55 0 (fun t56 w =>
  exq t55 1 (fun t57 w =>
  stn 34 t9 t56 (fun w =>
  un .not t57 (fun t59 w =>
  ifb t59
  (K (.bool false) w)
  (s3_p9 K B1 t3 t4 t5 t6 t9 t10 t57 t30 t31 t32 w)) w) w) w) w) w) w) w) w) w) w) w)
  (s3_p9 K B1 t3 t4 t5 t6 t9 t10 t11 t30 t31 t32 w)) w) w) w) w
def s3_p10_den (K : Value → World → Prop) (M1 : (Nat → Value) → World → Prop) : (Nat → Value) → World → Prop := denL Tryz.prog [(cd (Tryz.f3.body.getD .skip) [1, 1, 1, 1, 1, 1, 0, 1, 0, 0, 1, 1, 0, 0, 1, 1, 1, 1, 0, 1, 0, 1, 0, 0]), (cd (Tryz.f3.body.getD .skip) [1, 1, 1, 1, 1, 1, 0, 1, 0, 0, 1, 1, 0, 0, 1, 1, 1, 1, 0, 1, 0, 1, 0, 1, 0]), (cd (Tryz.f3.body.getD .skip) [1, 1, 1, 1, 1, 1, 0, 1, 0, 0, 1, 1, 0, 0, 1, 1, 1, 1, 0, 1, 0, 1, 0, 1, 1])] (s3_p9_den K M1) (fun i => (bif Nat.beq i 2 then (s3_p9_den K M1) else (bif Nat.beq i 1 then (s3_p2_den K M1) else (bif Nat.beq i 0 then (s3_p1_den K) else (fun _ _ => False))))) (s3_R K)
theorem s3_p10_ok (K : Value → World → Prop) (B1 : List Value → World → Prop) (s : Nat → Value) (w : World) (h : s3_p10 K B1 (s 3) (s 4) (s 5) (s 6) (s 8) (s 9) (s 10) (s 11) (s 30) (s 31) (s 32) w) : Tr (s3_p10_den K (fun s w => B1 [s 3, s 4, s 5, s 6, s 30, s 31, s 32] w) s w) :=
  tr_simple (P := Tryz.prog) (codes := [(cd (Tryz.f3.body.getD .skip) [1, 1, 1, 1, 1, 1, 0, 1, 0, 0, 1, 1, 0, 0, 1, 1, 1, 1, 0, 1, 0, 1, 0, 0]), (cd (Tryz.f3.body.getD .skip) [1, 1, 1, 1, 1, 1, 0, 1, 0, 0, 1, 1, 0, 0, 1, 1, 1, 1, 0, 1, 0, 1, 0, 1, 0]), (cd (Tryz.f3.body.getD .skip) [1, 1, 1, 1, 1, 1, 0, 1, 0, 0, 1, 1, 0, 0, 1, 1, 1, 1, 0, 1, 0, 1, 0, 1, 1])]) (N := (fun s w => s3_p9 K B1 (s 3) (s 4) (s 5) (s 6) (s 9) (s 10) (s 11) (s 30) (s 31) (s 32) w)) (N' := (s3_p9_den K (fun s w => B1 [s 3, s 4, s 5, s 6, s 30, s 31, s 32] w))) (X := (fun i => (bif Nat.beq i 2 then (fun s w => s3_p9 K B1 (s 3) (s 4) (s 5) (s 6) (s 9) (s 10) (s 11) (s 30) (s 31) (s 32) w) else (bif Nat.beq i 1 then (fun s w => s3_p2 K B1 (s 3) (s 4) (s 5) (s 6) (s 30) (s 31) (s 32) w) else (bif Nat.beq i 0 then (fun s w => s3_p1 K w) else (fun _ _ => False)))))) (X' := (fun i => (bif Nat.beq i 2 then (s3_p9_den K (fun s w => B1 [s 3, s 4, s 5, s 6, s 30, s 31, s 32] w)) else (bif Nat.beq i 1 then (s3_p2_den K (fun s w => B1 [s 3, s 4, s 5, s 6, s 30, s 31, s 32] w)) else (bif Nat.beq i 0 then (s3_p1_den K) else (fun _ _ => False)))))) (R := s3_R K) (s := s) (w := w) (p := s3_p10 K B1 (s 3) (s 4) (s 5) (s 6) (s 8) (s 9) (s 10) (s 11) (s 30) (s 31) (s 32) w) (q := s3_p10_den K (fun s w => B1 [s 3, s 4, s 5, s 6, s 30, s 31, s 32] w) s w) (fun s w h => s3_p9_ok K B1 s w @h) (fun i => (tr_bif (fun s w h => s3_p9_ok K B1 s w @h) (tr_bif (fun s w h => s3_p2_ok K B1 s w @h) (tr_bif (fun s w h => s3_p1_ok K s w @h) tr_id)))) (by kernel_rfl) (by kernel_rfl) @h
def s3_p11_d (K : Value → World → Prop) (B1 : List Value → World → Prop) (t3 t4 t5 t6 t8 t9 t10 t11 t30 t31 t32 : Value) (w0 w : World) : Prop :=
  nck t3 (fun t63 _ =>
  fd 0 t63 (fun t64 _ =>
  ld1 t64 (fun t65 _ =>
  fd 2 t8 (fun t66 _ =>
  ld1 t66 (fun t67 _ =>
  fd 3 t8 (fun t68 _ =>
  ld1 t68 (fun t69 _ =>
  cl Tryz.prog 15 #[t65, t67, t69] (fun t70 w =>
  s3_p9 K B1 t3 t4 t5 t6 t9 t10 t11 t30 t31 t32 w) w) w0) w0) w0) w0) w0) w0) w0
def s3_p11 (K : Value → World → Prop) (B1 : List Value → World → Prop) (t3 t4 t5 t6 t8 t9 t10 t11 t30 t31 t32 : Value) (w : World) : Prop := s3_p11_d K B1 t3 t4 t5 t6 t8 t9 t10 t11 t30 t31 t32 (drw w) (drw w)
def s3_p11_den (K : Value → World → Prop) (M1 : (Nat → Value) → World → Prop) : (Nat → Value) → World → Prop := denL Tryz.prog [(cd (Tryz.f3.body.getD .skip) [1, 1, 1, 1, 1, 1, 0, 1, 0, 0, 1, 1, 0, 0, 1, 1, 1, 1, 0, 1, 0, 1, 1, 1, 0])] (s3_p9_den K M1) (fun i => (bif Nat.beq i 2 then (s3_p9_den K M1) else (bif Nat.beq i 1 then (s3_p2_den K M1) else (bif Nat.beq i 0 then (s3_p1_den K) else (fun _ _ => False))))) (s3_R K)
theorem s3_p11_ok (K : Value → World → Prop) (B1 : List Value → World → Prop) (s : Nat → Value) (w : World) (h : s3_p11 K B1 (s 3) (s 4) (s 5) (s 6) (s 8) (s 9) (s 10) (s 11) (s 30) (s 31) (s 32) w) : Tr (s3_p11_den K (fun s w => B1 [s 3, s 4, s 5, s 6, s 30, s 31, s 32] w) s w) :=
  tr_draw (P := Tryz.prog) (ops := (ro (cd (Tryz.f3.body.getD .skip) [1, 1, 1, 1, 1, 1, 0, 1, 0, 0, 1, 1, 0, 0, 1, 1, 1, 1, 0, 1, 0, 1, 1, 1, 0]))) (ms := [0, 1, 3, 7, 0, 16, 0, 64, 255]) (cs := [0, 1, 2, 3, 4, 5, 6, 7]) (N := (fun s w => s3_p9 K B1 (s 3) (s 4) (s 5) (s 6) (s 9) (s 10) (s 11) (s 30) (s 31) (s 32) w)) (N' := (s3_p9_den K (fun s w => B1 [s 3, s 4, s 5, s 6, s 30, s 31, s 32] w))) (s := s) (w := w) (p := s3_p11 K B1 (s 3) (s 4) (s 5) (s 6) (s 8) (s 9) (s 10) (s 11) (s 30) (s 31) (s 32) w) (q := s3_p11_den K (fun s w => B1 [s 3, s 4, s 5, s 6, s 30, s 31, s 32] w) s w) (by kernel_rfl) (by kernel_rfl) (fun s w h => s3_p9_ok K B1 s w @h) (by kernel_rfl) (by kernel_rfl) @h
def s3_p12 (K : Value → World → Prop) (B1 : List Value → World → Prop) (t3 t4 t5 t6 t8 t9 t10 t11 t30 t31 t32 t37 : Value) (w : World) : Prop :=
  boI .eql t37 (.int .i64 2) (fun t72 w =>
  ifb t72
  (ldn 4 t8 (fun t74 w =>
  cl Tryz.prog 16 #[t3, t74] (fun t75 w =>
  s3_p9 K B1 t3 t4 t5 t6 t9 t10 t11 t30 t31 t32 w) w) w)
  (s3_p9 K B1 t3 t4 t5 t6 t9 t10 t11 t30 t31 t32 w)) w
def s3_p12_den (K : Value → World → Prop) (M1 : (Nat → Value) → World → Prop) : (Nat → Value) → World → Prop := denL Tryz.prog [(cd (Tryz.f3.body.getD .skip) [1, 1, 1, 1, 1, 1, 0, 1, 0, 0, 1, 1, 0, 0, 1, 1, 1, 1, 0, 1, 0, 1, 1, 1, 1, 0]), (cd (Tryz.f3.body.getD .skip) [1, 1, 1, 1, 1, 1, 0, 1, 0, 0, 1, 1, 0, 0, 1, 1, 1, 1, 0, 1, 0, 1, 1, 1, 1, 1])] (s3_p9_den K M1) (fun i => (bif Nat.beq i 2 then (s3_p9_den K M1) else (bif Nat.beq i 1 then (s3_p2_den K M1) else (bif Nat.beq i 0 then (s3_p1_den K) else (fun _ _ => False))))) (s3_R K)
theorem s3_p12_ok (K : Value → World → Prop) (B1 : List Value → World → Prop) (s : Nat → Value) (w : World) (h : s3_p12 K B1 (s 3) (s 4) (s 5) (s 6) (s 8) (s 9) (s 10) (s 11) (s 30) (s 31) (s 32) (s 37) w) : Tr (s3_p12_den K (fun s w => B1 [s 3, s 4, s 5, s 6, s 30, s 31, s 32] w) s w) :=
  tr_simple (P := Tryz.prog) (codes := [(cd (Tryz.f3.body.getD .skip) [1, 1, 1, 1, 1, 1, 0, 1, 0, 0, 1, 1, 0, 0, 1, 1, 1, 1, 0, 1, 0, 1, 1, 1, 1, 0]), (cd (Tryz.f3.body.getD .skip) [1, 1, 1, 1, 1, 1, 0, 1, 0, 0, 1, 1, 0, 0, 1, 1, 1, 1, 0, 1, 0, 1, 1, 1, 1, 1])]) (N := (fun s w => s3_p9 K B1 (s 3) (s 4) (s 5) (s 6) (s 9) (s 10) (s 11) (s 30) (s 31) (s 32) w)) (N' := (s3_p9_den K (fun s w => B1 [s 3, s 4, s 5, s 6, s 30, s 31, s 32] w))) (X := (fun i => (bif Nat.beq i 2 then (fun s w => s3_p9 K B1 (s 3) (s 4) (s 5) (s 6) (s 9) (s 10) (s 11) (s 30) (s 31) (s 32) w) else (bif Nat.beq i 1 then (fun s w => s3_p2 K B1 (s 3) (s 4) (s 5) (s 6) (s 30) (s 31) (s 32) w) else (bif Nat.beq i 0 then (fun s w => s3_p1 K w) else (fun _ _ => False)))))) (X' := (fun i => (bif Nat.beq i 2 then (s3_p9_den K (fun s w => B1 [s 3, s 4, s 5, s 6, s 30, s 31, s 32] w)) else (bif Nat.beq i 1 then (s3_p2_den K (fun s w => B1 [s 3, s 4, s 5, s 6, s 30, s 31, s 32] w)) else (bif Nat.beq i 0 then (s3_p1_den K) else (fun _ _ => False)))))) (R := s3_R K) (s := s) (w := w) (p := s3_p12 K B1 (s 3) (s 4) (s 5) (s 6) (s 8) (s 9) (s 10) (s 11) (s 30) (s 31) (s 32) (s 37) w) (q := s3_p12_den K (fun s w => B1 [s 3, s 4, s 5, s 6, s 30, s 31, s 32] w) s w) (fun s w h => s3_p9_ok K B1 s w @h) (fun i => (tr_bif (fun s w h => s3_p9_ok K B1 s w @h) (tr_bif (fun s w h => s3_p2_ok K B1 s w @h) (tr_bif (fun s w h => s3_p1_ok K s w @h) tr_id)))) (by kernel_rfl) (by kernel_rfl) @h
def s3_p13 (K : Value → World → Prop) (B1 : List Value → World → Prop) (t3 t4 t5 t6 t8 t9 t10 t11 t30 t31 t32 t37 t60 : Value) (w : World) : Prop :=
  ifb t60
  (s3_p11 K B1 t3 t4 t5 t6 t8 t9 t10 t11 t30 t31 t32 w)
  (s3_p12 K B1 t3 t4 t5 t6 t8 t9 t10 t11 t30 t31 t32 t37 w)
def s3_p13_den (K : Value → World → Prop) (M1 : (Nat → Value) → World → Prop) : (Nat → Value) → World → Prop := fun s w => ifb (ev s (.tmp 60)) ((s3_p11_den K M1) s w) ((s3_p12_den K M1) s w)
theorem s3_p13_ok (K : Value → World → Prop) (B1 : List Value → World → Prop) (s : Nat → Value) (w : World) (h : s3_p13 K B1 (s 3) (s 4) (s 5) (s 6) (s 8) (s 9) (s 10) (s 11) (s 30) (s 31) (s 32) (s 37) (s 60) w) : Tr (s3_p13_den K (fun s w => B1 [s 3, s 4, s 5, s 6, s 30, s 31, s 32] w) s w) :=
  tr_cond (v := ev s (.tmp 60)) (a := (fun s w => s3_p11 K B1 (s 3) (s 4) (s 5) (s 6) (s 8) (s 9) (s 10) (s 11) (s 30) (s 31) (s 32) w) s w) (a' := (s3_p11_den K (fun s w => B1 [s 3, s 4, s 5, s 6, s 30, s 31, s 32] w)) s w) (b := (fun s w => s3_p12 K B1 (s 3) (s 4) (s 5) (s 6) (s 8) (s 9) (s 10) (s 11) (s 30) (s 31) (s 32) (s 37) w) s w) (b' := (s3_p12_den K (fun s w => B1 [s 3, s 4, s 5, s 6, s 30, s 31, s 32] w)) s w) (p := s3_p13 K B1 (s 3) (s 4) (s 5) (s 6) (s 8) (s 9) (s 10) (s 11) (s 30) (s 31) (s 32) (s 37) (s 60) w) (q := s3_p13_den K (fun s w => B1 [s 3, s 4, s 5, s 6, s 30, s 31, s 32] w) s w) ((fun s w h => s3_p11_ok K B1 s w @h) s w) ((fun s w h => s3_p12_ok K B1 s w @h) s w) (by kernel_rfl) (by kernel_rfl) @h
def s3_p14 (K : Value → World → Prop) (B1 : List Value → World → Prop) (t3 t4 t5 t6 t8 t9 t10 t11 t30 t31 t32 t37 : Value) (w : World) : Prop :=
  boI .eql t37 (.int .i64 1) (fun t61 w =>
  s3_p13 K B1 t3 t4 t5 t6 t8 t9 t10 t11 t30 t31 t32 t37 t61 w) w
def s3_p14_den (K : Value → World → Prop) (M1 : (Nat → Value) → World → Prop) : (Nat → Value) → World → Prop := denL Tryz.prog [(cd (Tryz.f3.body.getD .skip) [1, 1, 1, 1, 1, 1, 0, 1, 0, 0, 1, 1, 0, 0, 1, 1, 1, 1, 0, 1, 0, 1, 1, 0])] (s3_p13_den K M1) (fun i => (bif Nat.beq i 2 then (s3_p9_den K M1) else (bif Nat.beq i 1 then (s3_p2_den K M1) else (bif Nat.beq i 0 then (s3_p1_den K) else (fun _ _ => False))))) (s3_R K)
theorem s3_p14_ok (K : Value → World → Prop) (B1 : List Value → World → Prop) (s : Nat → Value) (w : World) (h : s3_p14 K B1 (s 3) (s 4) (s 5) (s 6) (s 8) (s 9) (s 10) (s 11) (s 30) (s 31) (s 32) (s 37) w) : Tr (s3_p14_den K (fun s w => B1 [s 3, s 4, s 5, s 6, s 30, s 31, s 32] w) s w) :=
  tr_simple (P := Tryz.prog) (codes := [(cd (Tryz.f3.body.getD .skip) [1, 1, 1, 1, 1, 1, 0, 1, 0, 0, 1, 1, 0, 0, 1, 1, 1, 1, 0, 1, 0, 1, 1, 0])]) (N := (fun s w => s3_p13 K B1 (s 3) (s 4) (s 5) (s 6) (s 8) (s 9) (s 10) (s 11) (s 30) (s 31) (s 32) (s 37) (s 60) w)) (N' := (s3_p13_den K (fun s w => B1 [s 3, s 4, s 5, s 6, s 30, s 31, s 32] w))) (X := (fun i => (bif Nat.beq i 2 then (fun s w => s3_p9 K B1 (s 3) (s 4) (s 5) (s 6) (s 9) (s 10) (s 11) (s 30) (s 31) (s 32) w) else (bif Nat.beq i 1 then (fun s w => s3_p2 K B1 (s 3) (s 4) (s 5) (s 6) (s 30) (s 31) (s 32) w) else (bif Nat.beq i 0 then (fun s w => s3_p1 K w) else (fun _ _ => False)))))) (X' := (fun i => (bif Nat.beq i 2 then (s3_p9_den K (fun s w => B1 [s 3, s 4, s 5, s 6, s 30, s 31, s 32] w)) else (bif Nat.beq i 1 then (s3_p2_den K (fun s w => B1 [s 3, s 4, s 5, s 6, s 30, s 31, s 32] w)) else (bif Nat.beq i 0 then (s3_p1_den K) else (fun _ _ => False)))))) (R := s3_R K) (s := s) (w := w) (p := s3_p14 K B1 (s 3) (s 4) (s 5) (s 6) (s 8) (s 9) (s 10) (s 11) (s 30) (s 31) (s 32) (s 37) w) (q := s3_p14_den K (fun s w => B1 [s 3, s 4, s 5, s 6, s 30, s 31, s 32] w) s w) (fun s w h => s3_p13_ok K B1 s w @h) (fun i => (tr_bif (fun s w h => s3_p9_ok K B1 s w @h) (tr_bif (fun s w h => s3_p2_ok K B1 s w @h) (tr_bif (fun s w h => s3_p1_ok K s w @h) tr_id)))) (by kernel_rfl) (by kernel_rfl) @h
def s3_p15 (K : Value → World → Prop) (B1 : List Value → World → Prop) (t3 t4 t5 t6 t8 t9 t10 t11 t30 t31 t32 t37 t38 : Value) (w : World) : Prop :=
  ifb t38
  (s3_p10 K B1 t3 t4 t5 t6 t8 t9 t10 t11 t30 t31 t32 w)
  (s3_p14 K B1 t3 t4 t5 t6 t8 t9 t10 t11 t30 t31 t32 t37 w)
def s3_p15_den (K : Value → World → Prop) (M1 : (Nat → Value) → World → Prop) : (Nat → Value) → World → Prop := fun s w => ifb (ev s (.tmp 38)) ((s3_p10_den K M1) s w) ((s3_p14_den K M1) s w)
theorem s3_p15_ok (K : Value → World → Prop) (B1 : List Value → World → Prop) (s : Nat → Value) (w : World) (h : s3_p15 K B1 (s 3) (s 4) (s 5) (s 6) (s 8) (s 9) (s 10) (s 11) (s 30) (s 31) (s 32) (s 37) (s 38) w) : Tr (s3_p15_den K (fun s w => B1 [s 3, s 4, s 5, s 6, s 30, s 31, s 32] w) s w) :=
  tr_cond (v := ev s (.tmp 38)) (a := (fun s w => s3_p10 K B1 (s 3) (s 4) (s 5) (s 6) (s 8) (s 9) (s 10) (s 11) (s 30) (s 31) (s 32) w) s w) (a' := (s3_p10_den K (fun s w => B1 [s 3, s 4, s 5, s 6, s 30, s 31, s 32] w)) s w) (b := (fun s w => s3_p14 K B1 (s 3) (s 4) (s 5) (s 6) (s 8) (s 9) (s 10) (s 11) (s 30) (s 31) (s 32) (s 37) w) s w) (b' := (s3_p14_den K (fun s w => B1 [s 3, s 4, s 5, s 6, s 30, s 31, s 32] w)) s w) (p := s3_p15 K B1 (s 3) (s 4) (s 5) (s 6) (s 8) (s 9) (s 10) (s 11) (s 30) (s 31) (s 32) (s 37) (s 38) w) (q := s3_p15_den K (fun s w => B1 [s 3, s 4, s 5, s 6, s 30, s 31, s 32] w) s w) ((fun s w h => s3_p10_ok K B1 s w @h) s w) ((fun s w h => s3_p14_ok K B1 s w @h) s w) (by kernel_rfl) (by kernel_rfl) @h
def s3_p16 (K : Value → World → Prop) (B1 : List Value → World → Prop) (t3 t4 t5 t6 t8 t9 t10 t11 t30 t31 t32 t37 : Value) (w : World) : Prop :=
  boI .eql t37 (.int .i64 0) (fun t39 w =>
  ifb t39
  (s3_p15 K B1 t3 t4 t5 t6 t8 t9 t10 t11 t30 t31 t32 t37 t39 w)
  (boI .eql t37 (.int .i64 4) (fun t40 w =>
  s3_p15 K B1 t3 t4 t5 t6 t8 t9 t10 t11 t30 t31 t32 t37 t40 w) w)) w
def s3_p16_den (K : Value → World → Prop) (M1 : (Nat → Value) → World → Prop) : (Nat → Value) → World → Prop := denL Tryz.prog [(cd (Tryz.f3.body.getD .skip) [1, 1, 1, 1, 1, 1, 0, 1, 0, 0, 1, 1, 0, 0, 1, 1, 1, 1, 0, 1, 0, 0, 0]), (cd (Tryz.f3.body.getD .skip) [1, 1, 1, 1, 1, 1, 0, 1, 0, 0, 1, 1, 0, 0, 1, 1, 1, 1, 0, 1, 0, 0, 1])] (s3_p15_den K M1) (fun i => (bif Nat.beq i 2 then (s3_p9_den K M1) else (bif Nat.beq i 1 then (s3_p2_den K M1) else (bif Nat.beq i 0 then (s3_p1_den K) else (fun _ _ => False))))) (s3_R K)
theorem s3_p16_ok (K : Value → World → Prop) (B1 : List Value → World → Prop) (s : Nat → Value) (w : World) (h : s3_p16 K B1 (s 3) (s 4) (s 5) (s 6) (s 8) (s 9) (s 10) (s 11) (s 30) (s 31) (s 32) (s 37) w) : Tr (s3_p16_den K (fun s w => B1 [s 3, s 4, s 5, s 6, s 30, s 31, s 32] w) s w) :=
  tr_simple (P := Tryz.prog) (codes := [(cd (Tryz.f3.body.getD .skip) [1, 1, 1, 1, 1, 1, 0, 1, 0, 0, 1, 1, 0, 0, 1, 1, 1, 1, 0, 1, 0, 0, 0]), (cd (Tryz.f3.body.getD .skip) [1, 1, 1, 1, 1, 1, 0, 1, 0, 0, 1, 1, 0, 0, 1, 1, 1, 1, 0, 1, 0, 0, 1])]) (N := (fun s w => s3_p15 K B1 (s 3) (s 4) (s 5) (s 6) (s 8) (s 9) (s 10) (s 11) (s 30) (s 31) (s 32) (s 37) (s 38) w)) (N' := (s3_p15_den K (fun s w => B1 [s 3, s 4, s 5, s 6, s 30, s 31, s 32] w))) (X := (fun i => (bif Nat.beq i 2 then (fun s w => s3_p9 K B1 (s 3) (s 4) (s 5) (s 6) (s 9) (s 10) (s 11) (s 30) (s 31) (s 32) w) else (bif Nat.beq i 1 then (fun s w => s3_p2 K B1 (s 3) (s 4) (s 5) (s 6) (s 30) (s 31) (s 32) w) else (bif Nat.beq i 0 then (fun s w => s3_p1 K w) else (fun _ _ => False)))))) (X' := (fun i => (bif Nat.beq i 2 then (s3_p9_den K (fun s w => B1 [s 3, s 4, s 5, s 6, s 30, s 31, s 32] w)) else (bif Nat.beq i 1 then (s3_p2_den K (fun s w => B1 [s 3, s 4, s 5, s 6, s 30, s 31, s 32] w)) else (bif Nat.beq i 0 then (s3_p1_den K) else (fun _ _ => False)))))) (R := s3_R K) (s := s) (w := w) (p := s3_p16 K B1 (s 3) (s 4) (s 5) (s 6) (s 8) (s 9) (s 10) (s 11) (s 30) (s 31) (s 32) (s 37) w) (q := s3_p16_den K (fun s w => B1 [s 3, s 4, s 5, s 6, s 30, s 31, s 32] w) s w) (fun s w h => s3_p15_ok K B1 s w @h) (fun i => (tr_bif (fun s w h => s3_p9_ok K B1 s w @h) (tr_bif (fun s w h => s3_p2_ok K B1 s w @h) (tr_bif (fun s w h => s3_p1_ok K s w @h) tr_id)))) (by kernel_rfl) (by kernel_rfl) @h
def s3_p17 (K : Value → World → Prop) (B1 : List Value → World → Prop) (t3 t4 t5 t6 t30 t31 t32 : Value) (w : World) : Prop :=
  ixs 4 t30 t32 (fun t34 w =>
  ldn 4 t34 (fun t35 w =>
  nw 37 #[(.int .i64 0), (.slice none 0 0), (.int .i64 0), (.int .i64 0)] (fun t8 w =>
  stn 4 t8 t35 (fun w =>
  nw 46 #[(.int .i64 0), (.int .u8 0), (.int .i64 0), (.int .i64 0), (.int .i64 0), (.int .i64 0), (.int .i64 0), (.slice none 0 0), (.int .i64 0), (.int .i64 0), (.int .i64 0), (.slice none 0 0), (.int .i64 0), (.int .i64 0), (.int .i64 0), (.int .i64 0), (.int .i64 0), (.int .i64 0), (.slice none 0 0), (.int .i64 0), (.int .i64 0), (.int .i64 0), (.int .i64 0), (.int .i64 0), (.int .i64 0), (.int .i64 0), (.int .i64 0), (.int .i64 0), (.int .i64 0), (.int .i64 0), (.int .i64 0), (.int .i64 0), (.int .i64 0), (.int .i64 0)] (fun t9 w =>
  nw 49 #[(.int .u8 0), (.int .i64 0), (.int .i64 0), (.int .i64 0), (.int .i64 0), (.int .i64 0), (.int .i64 0), (.slice none 0 0)] (fun t10 w =>
  fd 0 t8 (fun t36 w =>
  ld1 t36 (fun t37 w =>
  s3_p16 K B1 t3 t4 t5 t6 t8 t9 t10 (.bool false) t30 t31 t32 t37 w) w) w) w) w) w) w) w) w
def s3_p17_den (K : Value → World → Prop) (M1 : (Nat → Value) → World → Prop) : (Nat → Value) → World → Prop := denL Tryz.prog [(cd (Tryz.f3.body.getD .skip) [1, 1, 1, 1, 1, 1, 0, 1, 0, 0, 1, 1, 0, 0, 0]), (cd (Tryz.f3.body.getD .skip) [1, 1, 1, 1, 1, 1, 0, 1, 0, 0, 1, 1, 0, 0, 1, 0]), (cd (Tryz.f3.body.getD .skip) [1, 1, 1, 1, 1, 1, 0, 1, 0, 0, 1, 1, 0, 0, 1, 1, 0]), (cd (Tryz.f3.body.getD .skip) [1, 1, 1, 1, 1, 1, 0, 1, 0, 0, 1, 1, 0, 0, 1, 1, 1, 0]), (cd (Tryz.f3.body.getD .skip) [1, 1, 1, 1, 1, 1, 0, 1, 0, 0, 1, 1, 0, 0, 1, 1, 1, 1, 0, 0])] (s3_p16_den K M1) (fun i => (bif Nat.beq i 1 then (s3_p2_den K M1) else (bif Nat.beq i 0 then (s3_p1_den K) else (fun _ _ => False)))) (s3_R K)
theorem s3_p17_ok (K : Value → World → Prop) (B1 : List Value → World → Prop) (s : Nat → Value) (w : World) (h : s3_p17 K B1 (s 3) (s 4) (s 5) (s 6) (s 30) (s 31) (s 32) w) : Tr (s3_p17_den K (fun s w => B1 [s 3, s 4, s 5, s 6, s 30, s 31, s 32] w) s w) :=
  tr_simple (P := Tryz.prog) (codes := [(cd (Tryz.f3.body.getD .skip) [1, 1, 1, 1, 1, 1, 0, 1, 0, 0, 1, 1, 0, 0, 0]), (cd (Tryz.f3.body.getD .skip) [1, 1, 1, 1, 1, 1, 0, 1, 0, 0, 1, 1, 0, 0, 1, 0]), (cd (Tryz.f3.body.getD .skip) [1, 1, 1, 1, 1, 1, 0, 1, 0, 0, 1, 1, 0, 0, 1, 1, 0]), (cd (Tryz.f3.body.getD .skip) [1, 1, 1, 1, 1, 1, 0, 1, 0, 0, 1, 1, 0, 0, 1, 1, 1, 0]), (cd (Tryz.f3.body.getD .skip) [1, 1, 1, 1, 1, 1, 0, 1, 0, 0, 1, 1, 0, 0, 1, 1, 1, 1, 0, 0])]) (N := (fun s w => s3_p16 K B1 (s 3) (s 4) (s 5) (s 6) (s 8) (s 9) (s 10) (s 11) (s 30) (s 31) (s 32) (s 37) w)) (N' := (s3_p16_den K (fun s w => B1 [s 3, s 4, s 5, s 6, s 30, s 31, s 32] w))) (X := (fun i => (bif Nat.beq i 1 then (fun s w => s3_p2 K B1 (s 3) (s 4) (s 5) (s 6) (s 30) (s 31) (s 32) w) else (bif Nat.beq i 0 then (fun s w => s3_p1 K w) else (fun _ _ => False))))) (X' := (fun i => (bif Nat.beq i 1 then (s3_p2_den K (fun s w => B1 [s 3, s 4, s 5, s 6, s 30, s 31, s 32] w)) else (bif Nat.beq i 0 then (s3_p1_den K) else (fun _ _ => False))))) (R := s3_R K) (s := s) (w := w) (p := s3_p17 K B1 (s 3) (s 4) (s 5) (s 6) (s 30) (s 31) (s 32) w) (q := s3_p17_den K (fun s w => B1 [s 3, s 4, s 5, s 6, s 30, s 31, s 32] w) s w) (fun s w h => s3_p16_ok K B1 s w @h) (fun i => (tr_bif (fun s w h => s3_p2_ok K B1 s w @h) (tr_bif (fun s w h => s3_p1_ok K s w @h) tr_id))) (by kernel_rfl) (by kernel_rfl) @h
def s3_p18 (K : Value → World → Prop) (B1 : List Value → World → Prop) (t3 t4 t5 t6 t30 t31 t32 : Value) (w : World) : Prop :=
  boI .lss t32 t31 (fun t33 w =>
  ifb t33
  (s3_p17 K B1 t3 t4 t5 t6 t30 t31 t32 w)
  (s3_p1 K w)) w
def s3_p18_den (K : Value → World → Prop) (M1 : (Nat → Value) → World → Prop) : (Nat → Value) → World → Prop := denL Tryz.prog [(cd (Tryz.f3.body.getD .skip) [1, 1, 1, 1, 1, 1, 0, 1, 0, 0, 0]), (cd (Tryz.f3.body.getD .skip) [1, 1, 1, 1, 1, 1, 0, 1, 0, 0, 1, 0])] (s3_p17_den K M1) (fun i => (bif Nat.beq i 0 then (s3_p1_den K) else (fun _ _ => False))) (s3_R K)
theorem s3_p18_ok (K : Value → World → Prop) (B1 : List Value → World → Prop) (s : Nat → Value) (w : World) (h : s3_p18 K B1 (s 3) (s 4) (s 5) (s 6) (s 30) (s 31) (s 32) w) : Tr (s3_p18_den K (fun s w => B1 [s 3, s 4, s 5, s 6, s 30, s 31, s 32] w) s w) :=
  tr_simple (P := Tryz.prog) (codes := [(cd (Tryz.f3.body.getD .skip) [1, 1, 1, 1, 1, 1, 0, 1, 0, 0, 0]), (cd (Tryz.f3.body.getD .skip) [1, 1, 1, 1, 1, 1, 0, 1, 0, 0, 1, 0])]) (N := (fun s w => s3_p17 K B1 (s 3) (s 4) (s 5) (s 6) (s 30) (s 31) (s 32) w)) (N' := (s3_p17_den K (fun s w => B1 [s 3, s 4, s 5, s 6, s 30, s 31, s 32] w))) (X := (fun i => (bif Nat.beq i 0 then (fun s w => s3_p1 K w) else (fun _ _ => False)))) (X' := (fun i => (bif Nat.beq i 0 then (s3_p1_den K) else (fun _ _ => False)))) (R := s3_R K) (s := s) (w := w) (p := s3_p18 K B1 (s 3) (s 4) (s 5) (s 6) (s 30) (s 31) (s 32) w) (q := s3_p18_den K (fun s w => B1 [s 3, s 4, s 5, s 6, s 30, s 31, s 32] w) s w) (fun s w h => s3_p17_ok K B1 s w @h) (fun i => (tr_bif (fun s w h => s3_p1_ok K s w @h) tr_id)) (by kernel_rfl) (by kernel_rfl) @h
def s3_p19_F (K : Value → World → Prop) (B1 : List Value → World → Prop) (l : List Value) (w : World) : Prop :=
  match l with
  | [t3, t4, t5, t6, t30, t31, t32] => s3_p18 K B1 t3 t4 t5 t6 t30 t31 t32 w
  | _ => False
theorem s3_p19_Fe {K : Value → World → Prop} {B1 : List Value → World → Prop} {t3 t4 t5 t6 t30 t31 t32 : Value} {w : World} : s3_p19_F K B1 [t3, t4, t5, t6, t30, t31, t32] w = s3_p18 K B1 t3 t4 t5 t6 t30 t31 t32 w := by kernel_rfl
def s3_p19 (K : Value → World → Prop) (t3 t4 t5 t6 t30 t31 t32 : Value) (w : World) : Prop :=
  LoopL (s3_p19_F K) [t3, t4, t5, t6, t30, t31, t32] w
def s3_p19_den (K : Value → World → Prop) : (Nat → Value) → World → Prop := fun s w => LoopP (fun M1 s w => s3_p18_den K M1 s w) s w
theorem s3_p19_ok (K : Value → World → Prop) (s : Nat → Value) (w : World) (h : s3_p19 K (s 3) (s 4) (s 5) (s 6) (s 30) (s 31) (s 32) w) : Tr (s3_p19_den K s w) :=
  tr_loop (G := fun N' s w => s3_p18_den K N' s w) (F := s3_p19_F K) (sel := fun s => [s 3, s 4, s 5, s 6, s 30, s 31, s 32]) (s := s) (w := w) (p := s3_p19 K (s 3) (s 4) (s 5) (s 6) (s 30) (s 31) (s 32) w) (q := s3_p19_den K s w) (fun B s w h => s3_p18_ok K B s w @h) (by kernel_rfl) (by kernel_rfl) @h
def s3_p20 (K : Value → World → Prop) (t0 : Value) (w : World) : Prop :=
  cl Tryz.prog 7 #[t0] (fun t22 w =>
  un .not t22 (fun t23 w =>
  ifb t23
  (K (.bool true) w)
  (cl Tryz.prog 9 #[] (fun t24 w =>
  cl Tryz.prog 8 #[t24] (fun t25 w =>
  cl Tryz.prog 10 #[(.func (.func 11) #[t25] #[])] (fun t28 w =>
  rs Tryz.prog (Instr.makeMap 33 none) (fun t29 w =>
  lnS t0 (fun t31 w =>
  s3_p19 K t25 t28 (.slice none 0 0) t29 t0 t31 (.int .i64 0) w) w) w) w) w) w)) w) w
def s3_p20_den (K : Value → World → Prop) : (Nat → Value) → World → Prop := denL Tryz.prog [(cd (Tryz.f3.body.getD .skip) [0]), (cd (Tryz.f3.body.getD .skip) [1, 0, 0]), (cd (Tryz.f3.body.getD .skip) [1, 0, 1]), (cd (Tryz.f3.body.getD .skip) [1, 1, 0]), (cd (Tryz.f3.body.getD .skip) [1, 1, 1, 0]), (cd (Tryz.f3.body.getD .skip) [1, 1, 1, 1, 0]), (cd (Tryz.f3.body.getD .skip) [1, 1, 1, 1, 1, 0]), (cd (Tryz.f3.body.getD .skip) [1, 1, 1, 1, 1, 1, 0, 0])] (s3_p19_den K) (fun i => (fun _ _ => False)) (s3_R K)
theorem s3_p20_ok (K : Value → World → Prop) (s : Nat → Value) (w : World) (h : s3_p20 K (s 0) w) : Tr (s3_p20_den K s w) :=
  tr_simple (P := Tryz.prog) (codes := [(cd (Tryz.f3.body.getD .skip) [0]), (cd (Tryz.f3.body.getD .skip) [1, 0, 0]), (cd (Tryz.f3.body.getD .skip) [1, 0, 1]), (cd (Tryz.f3.body.getD .skip) [1, 1, 0]), (cd (Tryz.f3.body.getD .skip) [1, 1, 1, 0]), (cd (Tryz.f3.body.getD .skip) [1, 1, 1, 1, 0]), (cd (Tryz.f3.body.getD .skip) [1, 1, 1, 1, 1, 0]), (cd (Tryz.f3.body.getD .skip) [1, 1, 1, 1, 1, 1, 0, 0])]) (N := (fun s w => s3_p19 K (s 3) (s 4) (s 5) (s 6) (s 30) (s 31) (s 32) w)) (N' := (s3_p19_den K)) (X := (fun i => (fun _ _ => False))) (X' := (fun i => (fun _ _ => False))) (R := s3_R K) (s := s) (w := w) (p := s3_p20 K (s 0) w) (q := s3_p20_den K s w) (fun s w h => s3_p19_ok K s w @h) (fun i => tr_id) (by kernel_rfl) (by kernel_rfl) @h
/-- the call, from the text -/
theorem c3 (t0 : Value) {K : Value → World → Prop} {w : World} (h : s3_p20 K t0 w) : cl Tryz.prog 3 #[t0] K w :=
  calls_of_tr (c := (Tryz.f3.body.getD .skip)) (fn := Tryz.f3) (q := s3_p20_den K (st0 #[t0]) w) Tryz.func3 (by kernel_rfl) (by kernel_rfl) (Nat.le_of_ble_eq_true (by kernel_rfl)) (by kernel_rfl) (by kernel_rfl) (s3_p20_ok K (st0 #[t0]) w @h)

/-! ### function 18 : e2e.enginelaw.mayMove -/
def s18_R (K : Value → World → Prop) (s : Nat → Value) (w : World) : Prop := retv Tryz.prog s Tryz.f18.results.toList (fun vs => K (pack vs) w) w
def s18_p1 (K : Value → World → Prop) (w : World) : Prop :=
  K (.bool false) w
def s18_p1_den (K : Value → World → Prop) : (Nat → Value) → World → Prop := denL Tryz.prog [(cd (Tryz.f18.body.getD .skip) [1, 1, 0]), (cd (Tryz.f18.body.getD .skip) [1, 1, 1])] (fun _ _ => False) (fun i => (fun _ _ => False)) (s18_R K)
theorem s18_p1_ok (K : Value → World → Prop) (s : Nat → Value) (w : World) (h : s18_p1 K w) : Tr (s18_p1_den K s w) :=
  tr_simple (P := Tryz.prog) (codes := [(cd (Tryz.f18.body.getD .skip) [1, 1, 0]), (cd (Tryz.f18.body.getD .skip) [1, 1, 1])]) (N := (fun _ _ => False)) (N' := (fun _ _ => False)) (X := (fun i => (fun _ _ => False))) (X' := (fun i => (fun _ _ => False))) (R := s18_R K) (s := s) (w := w) (p := s18_p1 K w) (q := s18_p1_den K s w) tr_id (fun i => tr_id) (by kernel_rfl) (by kernel_rfl) @h
def s18_p2 (K : Value → World → Prop) (B1 : List Value → World → Prop) (t1 t9 t10 t11 : Value) (w : World) : Prop :=
  boI .lss t11 t10 (fun t12 w =>
  ifb t12
  (ixs 1 t9 t11 (fun t13 w =>
  ld1 t13 (fun t14 w =>
  boI .eql t14 t1 (fun t17 w =>
  ifb t17
  (K (.bool true) w)
  (boI .add t11 (.int .i64 1) (fun t18 w =>
  B1 [t1, t9, t10, t18] w) w)) w) w) w)
  (s18_p1 K w)) w
def s18_p2_den (K : Value → World → Prop) (M1 : (Nat → Value) → World → Prop) : (Nat → Value) → World → Prop := denL Tryz.prog [(cd (Tryz.f18.body.getD .skip) [1, 0, 1, 0, 0, 0]), (cd (Tryz.f18.body.getD .skip) [1, 0, 1, 0, 0, 1, 0]), (cd (Tryz.f18.body.getD .skip) [1, 0, 1, 0, 0, 1, 1, 0]), (cd (Tryz.f18.body.getD .skip) [1, 0, 1, 0, 0, 1, 1, 1])] M1 (fun i => (bif Nat.beq i 0 then (s18_p1_den K) else (fun _ _ => False))) (s18_R K)
theorem s18_p2_ok (K : Value → World → Prop) (B1 : List Value → World → Prop) (s : Nat → Value) (w : World) (h : s18_p2 K B1 (s 1) (s 9) (s 10) (s 11) w) : Tr (s18_p2_den K (fun s w => B1 [s 1, s 9, s 10, s 11] w) s w) :=
  tr_simple (P := Tryz.prog) (codes := [(cd (Tryz.f18.body.getD .skip) [1, 0, 1, 0, 0, 0]), (cd (Tryz.f18.body.getD .skip) [1, 0, 1, 0, 0, 1, 0]), (cd (Tryz.f18.body.getD .skip) [1, 0, 1, 0, 0, 1, 1, 0]), (cd (Tryz.f18.body.getD .skip) [1, 0, 1, 0, 0, 1, 1, 1])]) (N := (fun s w => B1 [s 1, s 9, s 10, s 11] w)) (N' := (fun s w => B1 [s 1, s 9, s 10, s 11] w)) (X := (fun i => (bif Nat.beq i 0 then (fun s w => s18_p1 K w) else (fun _ _ => False)))) (X' := (fun i => (bif Nat.beq i 0 then (s18_p1_den K) else (fun _ _ => False)))) (R := s18_R K) (s := s) (w := w) (p := s18_p2 K B1 (s 1) (s 9) (s 10) (s 11) w) (q := s18_p2_den K (fun s w => B1 [s 1, s 9, s 10, s 11] w) s w) tr_id (fun i => (tr_bif (fun s w h => s18_p1_ok K s w @h) tr_id)) (by kernel_rfl) (by kernel_rfl) @h
def s18_p3_F (K : Value → World → Prop) (B1 : List Value → World → Prop) (l : List Value) (w : World) : Prop :=
  match l with
  | [t1, t9, t10, t11] => s18_p2 K B1 t1 t9 t10 t11 w
  | _ => False
theorem s18_p3_Fe {K : Value → World → Prop} {B1 : List Value → World → Prop} {t1 t9 t10 t11 : Value} {w : World} : s18_p3_F K B1 [t1, t9, t10, t11] w = s18_p2 K B1 t1 t9 t10 t11 w := by kernel_rfl
def s18_p3 (K : Value → World → Prop) (t1 t9 t10 t11 : Value) (w : World) : Prop :=
  LoopL (s18_p3_F K) [t1, t9, t10, t11] w
def s18_p3_den (K : Value → World → Prop) : (Nat → Value) → World → Prop := fun s w => LoopP (fun M1 s w => s18_p2_den K M1 s w) s w
theorem s18_p3_ok (K : Value → World → Prop) (s : Nat → Value) (w : World) (h : s18_p3 K (s 1) (s 9) (s 10) (s 11) w) : Tr (s18_p3_den K s w) :=
  tr_loop (G := fun N' s w => s18_p2_den K N' s w) (F := s18_p3_F K) (sel := fun s => [s 1, s 9, s 10, s 11]) (s := s) (w := w) (p := s18_p3 K (s 1) (s 9) (s 10) (s 11) w) (q := s18_p3_den K s w) (fun B s w h => s18_p2_ok K B s w @h) (by kernel_rfl) (by kernel_rfl) @h
def s18_p4 (K : Value → World → Prop) (t0 t1 : Value) (w : World) : Prop :=
  ld1 (.pointer (some ⟨0, 0, none⟩)) (fun t7 w =>
  rs Tryz.prog (Instr.lookup 114 t7 t0 false) (fun t9 w =>
  lnS t9 (fun t10 w =>
  s18_p3 K t1 t9 t10 (.int .i64 0) w) w) w) w
def s18_p4_den (K : Value → World → Prop) : (Nat → Value) → World → Prop := denL Tryz.prog [(cd (Tryz.f18.body.getD .skip) [0]), (cd (Tryz.f18.body.getD .skip) [1, 0, 0])] (s18_p3_den K) (fun i => (fun _ _ => False)) (s18_R K)
theorem s18_p4_ok (K : Value → World → Prop) (s : Nat → Value) (w : World) (h : s18_p4 K (s 0) (s 1) w) : Tr (s18_p4_den K s w) :=
  tr_simple (P := Tryz.prog) (codes := [(cd (Tryz.f18.body.getD .skip) [0]), (cd (Tryz.f18.body.getD .skip) [1, 0, 0])]) (N := (fun s w => s18_p3 K (s 1) (s 9) (s 10) (s 11) w)) (N' := (s18_p3_den K)) (X := (fun i => (fun _ _ => False))) (X' := (fun i => (fun _ _ => False))) (R := s18_R K) (s := s) (w := w) (p := s18_p4 K (s 0) (s 1) w) (q := s18_p4_den K s w) (fun s w h => s18_p3_ok K s w @h) (fun i => tr_id) (by kernel_rfl) (by kernel_rfl) @h
/-- the call, from the text -/
theorem c18 (t0 t1 : Value) {K : Value → World → Prop} {w : World} (h : s18_p4 K t0 t1 w) : cl Tryz.prog 18 #[t0, t1] K w :=
  calls_of_tr (c := (Tryz.f18.body.getD .skip)) (fn := Tryz.f18) (q := s18_p4_den K (st0 #[t0, t1]) w) Tryz.func18 (by kernel_rfl) (by kernel_rfl) (Nat.le_of_ble_eq_true (by kernel_rfl)) (by kernel_rfl) (by kernel_rfl) (s18_p4_ok K (st0 #[t0, t1]) w @h)

/-! ### function 19 : e2e.enginelaw.sameLegs -/
def s19_R (K : Value → World → Prop) (s : Nat → Value) (w : World) : Prop := retv Tryz.prog s Tryz.f19.results.toList (fun vs => K (pack vs) w) w
def s19_p1 (K : Value → World → Prop) (w : World) : Prop :=
  K (.bool true) w
def s19_p1_den (K : Value → World → Prop) : (Nat → Value) → World → Prop := denL Tryz.prog [(cd (Tryz.f19.body.getD .skip) [1, 1, 1, 0]), (cd (Tryz.f19.body.getD .skip) [1, 1, 1, 1])] (fun _ _ => False) (fun i => (fun _ _ => False)) (s19_R K)
theorem s19_p1_ok (K : Value → World → Prop) (s : Nat → Value) (w : World) (h : s19_p1 K w) : Tr (s19_p1_den K s w) :=
  tr_simple (P := Tryz.prog) (codes := [(cd (Tryz.f19.body.getD .skip) [1, 1, 1, 0]), (cd (Tryz.f19.body.getD .skip) [1, 1, 1, 1])]) (N := (fun _ _ => False)) (N' := (fun _ _ => False)) (X := (fun i => (fun _ _ => False))) (X' := (fun i => (fun _ _ => False))) (R := s19_R K) (s := s) (w := w) (p := s19_p1 K w) (q := s19_p1_den K s w) tr_id (fun i => tr_id) (by kernel_rfl) (by kernel_rfl) @h
def s19_p2 (K : Value → World → Prop) (B1 : List Value → World → Prop) (t0 t1 t12 t13 : Value) (w : World) : Prop :=
  boI .add t13 (.int .i64 1) (fun t25 w =>
  B1 [t0, t1, t12, t25] w) w
def s19_p2_den (K : Value → World → Prop) (M1 : (Nat → Value) → World → Prop) : (Nat → Value) → World → Prop := denL Tryz.prog [(cd (Tryz.f19.body.getD .skip) [1, 1, 0, 1, 0, 0, 1, 1, 1])] M1 (fun i => (bif Nat.beq i 0 then (s19_p1_den K) else (fun _ _ => False))) (s19_R K)
theorem s19_p2_ok (K : Value → World → Prop) (B1 : List Value → World → Prop) (s : Nat → Value) (w : World) (h : s19_p2 K B1 (s 0) (s 1) (s 12) (s 13) w) : Tr (s19_p2_den K (fun s w => B1 [s 0, s 1, s 12, s 13] w) s w) :=
  tr_simple (P := Tryz.prog) (codes := [(cd (Tryz.f19.body.getD .skip) [1, 1, 0, 1, 0, 0, 1, 1, 1])]) (N := (fun s w => B1 [s 0, s 1, s 12, s 13] w)) (N' := (fun s w => B1 [s 0, s 1, s 12, s 13] w)) (X := (fun i => (bif Nat.beq i 0 then (fun s w => s19_p1 K w) else (fun _ _ => False)))) (X' := (fun i => (bif Nat.beq i 0 then (s19_p1_den K) else (fun _ _ => False)))) (R := s19_R K) (s := s) (w := w) (p := s19_p2 K B1 (s 0) (s 1) (s 12) (s 13) w) (q := s19_p2_den K (fun s w => B1 [s 0, s 1, s 12, s 13] w) s w) tr_id (fun i => (tr_bif (fun s w h => s19_p1_ok K s w @h) tr_id)) (by kernel_rfl) (by kernel_rfl) @h
def s19_p3 (K : Value → World → Prop) (B1 : List Value → World → Prop) (t0 t1 t12 t13 t24 : Value) (w : World) : Prop :=
  ifb t24
  (K (.bool false) w)
  (s19_p2 K B1 t0 t1 t12 t13 w)
def s19_p3_den (K : Value → World → Prop) (M1 : (Nat → Value) → World → Prop) : (Nat → Value) → World → Prop := denL Tryz.prog [(cd (Tryz.f19.body.getD .skip) [1, 1, 0, 1, 0, 0, 1, 1, 0, 0, 1, 1])] (s19_p2_den K M1) (fun i => (bif Nat.beq i 1 then (s19_p2_den K M1) else (bif Nat.beq i 0 then (s19_p1_den K) else (fun _ _ => False)))) (s19_R K)
theorem s19_p3_ok (K : Value → World → Prop) (B1 : List Value → World → Prop) (s : Nat → Value) (w : World) (h : s19_p3 K B1 (s 0) (s 1) (s 12) (s 13) (s 24) w) : Tr (s19_p3_den K (fun s w => B1 [s 0, s 1, s 12, s 13] w) s w) :=
  tr_simple (P := Tryz.prog) (codes := [(cd (Tryz.f19.body.getD .skip) [1, 1, 0, 1, 0, 0, 1, 1, 0, 0, 1, 1])]) (N := (fun s w => s19_p2 K B1 (s 0) (s 1) (s 12) (s 13) w)) (N' := (s19_p2_den K (fun s w => B1 [s 0, s 1, s 12, s 13] w))) (X := (fun i => (bif Nat.beq i 1 then (fun s w => s19_p2 K B1 (s 0) (s 1) (s 12) (s 13) w) else (bif Nat.beq i 0 then (fun s w => s19_p1 K w) else (fun _ _ => False))))) (X' := (fun i => (bif Nat.beq i 1 then (s19_p2_den K (fun s w => B1 [s 0, s 1, s 12, s 13] w)) else (bif Nat.beq i 0 then (s19_p1_den K) else (fun _ _ => False))))) (R := s19_R K) (s := s) (w := w) (p := s19_p3 K B1 (s 0) (s 1) (s 12) (s 13) (s 24) w) (q := s19_p3_den K (fun s w => B1 [s 0, s 1, s 12, s 13] w) s w) (fun s w h => s19_p2_ok K B1 s w @h) (fun i => (tr_bif (fun s w h => s19_p2_ok K B1 s w @h) (tr_bif (fun s w h => s19_p1_ok K s w @h) tr_id))) (by kernel_rfl) (by kernel_rfl) @h
def s19_p4_d (K : Value → World → Prop) (B1 : List Value → World → Prop) (t0 t1 t5 t12 t13 : Value) (w0 w : World) : Prop :=
  ixs 2 t0 t5 (fun t18 _ =>
  ldn 2 t18 (fun t19 _ =>
  ixs 2 t1 t5 (fun t22 _ =>
  ldn 2 t22 (fun t23 _ =>
  qv (bor Tryz.prog .neq 116 (.tmp 19) (.tmp 23) t19 t23) w0 (fun t24 =>
  s19_p3 K B1 t0 t1 t12 t13 t24 w)) w0) w0) w0) w0
def s19_p4 (K : Value → World → Prop) (B1 : List Value → World → Prop) (t0 t1 t5 t12 t13 : Value) (w : World) : Prop := s19_p4_d K B1 t0 t1 t5 t12 t13 (drw w) (drw w)
def s19_p4_den (K : Value → World → Prop) (M1 : (Nat → Value) → World → Prop) : (Nat → Value) → World → Prop := denL Tryz.prog [(cd (Tryz.f19.body.getD .skip) [1, 1, 0, 1, 0, 0, 1, 1, 0, 0, 1, 0])] (s19_p3_den K M1) (fun i => (bif Nat.beq i 1 then (s19_p2_den K M1) else (bif Nat.beq i 0 then (s19_p1_den K) else (fun _ _ => False)))) (s19_R K)
theorem s19_p4_ok (K : Value → World → Prop) (B1 : List Value → World → Prop) (s : Nat → Value) (w : World) (h : s19_p4 K B1 (s 0) (s 1) (s 5) (s 12) (s 13) w) : Tr (s19_p4_den K (fun s w => B1 [s 0, s 1, s 12, s 13] w) s w) :=
  tr_draw (P := Tryz.prog) (ops := (ro (cd (Tryz.f19.body.getD .skip) [1, 1, 0, 1, 0, 0, 1, 1, 0, 0, 1, 0]))) (ms := [0, 0, 3, 7, 0, 0, 48, 112, 255]) (cs := [0, 1, 2, 3, 4, 5, 6, 7, 8]) (N := (fun s w => s19_p3 K B1 (s 0) (s 1) (s 12) (s 13) (s 24) w)) (N' := (s19_p3_den K (fun s w => B1 [s 0, s 1, s 12, s 13] w))) (s := s) (w := w) (p := s19_p4 K B1 (s 0) (s 1) (s 5) (s 12) (s 13) w) (q := s19_p4_den K (fun s w => B1 [s 0, s 1, s 12, s 13] w) s w) (by kernel_rfl) (by kernel_rfl) (fun s w h => s19_p3_ok K B1 s w @h) (by kernel_rfl) (by kernel_rfl) @h
def s19_p5 (K : Value → World → Prop) (B1 : List Value → World → Prop) (t0 t1 t12 t13 : Value) (w : World) : Prop :=
  s19_p4 K B1 t0 t1 t13 t12 t13 w
def s19_p5_den (K : Value → World → Prop) (M1 : (Nat → Value) → World → Prop) : (Nat → Value) → World → Prop := denL Tryz.prog [(cd (Tryz.f19.body.getD .skip) [1, 1, 0, 1, 0, 0, 1, 1, 0, 0, 0])] (s19_p4_den K M1) (fun i => (bif Nat.beq i 1 then (s19_p2_den K M1) else (bif Nat.beq i 0 then (s19_p1_den K) else (fun _ _ => False)))) (s19_R K)
theorem s19_p5_ok (K : Value → World → Prop) (B1 : List Value → World → Prop) (s : Nat → Value) (w : World) (h : s19_p5 K B1 (s 0) (s 1) (s 12) (s 13) w) : Tr (s19_p5_den K (fun s w => B1 [s 0, s 1, s 12, s 13] w) s w) :=
  tr_simple (P := Tryz.prog) (codes := [(cd (Tryz.f19.body.getD .skip) [1, 1, 0, 1, 0, 0, 1, 1, 0, 0, 0])]) (N := (fun s w => s19_p4 K B1 (s 0) (s 1) (s 5) (s 12) (s 13) w)) (N' := (s19_p4_den K (fun s w => B1 [s 0, s 1, s 12, s 13] w))) (X := (fun i => (bif Nat.beq i 1 then (fun s w => s19_p2 K B1 (s 0) (s 1) (s 12) (s 13) w) else (bif Nat.beq i 0 then (fun s w => s19_p1 K w) else (fun _ _ => False))))) (X' := (fun i => (bif Nat.beq i 1 then (s19_p2_den K (fun s w => B1 [s 0, s 1, s 12, s 13] w)) else (bif Nat.beq i 0 then (s19_p1_den K) else (fun _ _ => False))))) (R := s19_R K) (s := s) (w := w) (p := s19_p5 K B1 (s 0) (s 1) (s 12) (s 13) w) (q := s19_p5_den K (fun s w => B1 [s 0, s 1, s 12, s 13] w) s w) (fun s w h => s19_p4_ok K B1 s w @h) (fun i => (tr_bif (fun s w h => s19_p2_ok K B1 s w @h) (tr_bif (fun s w h => s19_p1_ok K s w @h) tr_id))) (by kernel_rfl) (by kernel_rfl) @h
def s19_p6 (K : Value → World → Prop) (B1 : List Value → World → Prop) (t0 t1 t12 t13 : Value) (w : World) : Prop :=
  boI .lss t13 t12 (fun t14 w =>
  ifb t14
  (s19_p5 K B1 t0 t1 t12 t13 w)
  (s19_p1 K w)) w
def s19_p6_den (K : Value → World → Prop) (M1 : (Nat → Value) → World → Prop) : (Nat → Value) → World → Prop := denL Tryz.prog [(cd (Tryz.f19.body.getD .skip) [1, 1, 0, 1, 0, 0, 0]), (cd (Tryz.f19.body.getD .skip) [1, 1, 0, 1, 0, 0, 1, 0])] (s19_p5_den K M1) (fun i => (bif Nat.beq i 0 then (s19_p1_den K) else (fun _ _ => False))) (s19_R K)
theorem s19_p6_ok (K : Value → World → Prop) (B1 : List Value → World → Prop) (s : Nat → Value) (w : World) (h : s19_p6 K B1 (s 0) (s 1) (s 12) (s 13) w) : Tr (s19_p6_den K (fun s w => B1 [s 0, s 1, s 12, s 13] w) s w) :=
  tr_simple (P := Tryz.prog) (codes := [(cd (Tryz.f19.body.getD .skip) [1, 1, 0, 1, 0, 0, 0]), (cd (Tryz.f19.body.getD .skip) [1, 1, 0, 1, 0, 0, 1, 0])]) (N := (fun s w => s19_p5 K B1 (s 0) (s 1) (s 12) (s 13) w)) (N' := (s19_p5_den K (fun s w => B1 [s 0, s 1, s 12, s 13] w))) (X := (fun i => (bif Nat.beq i 0 then (fun s w => s19_p1 K w) else (fun _ _ => False)))) (X' := (fun i => (bif Nat.beq i 0 then (s19_p1_den K) else (fun _ _ => False)))) (R := s19_R K) (s := s) (w := w) (p := s19_p6 K B1 (s 0) (s 1) (s 12) (s 13) w) (q := s19_p6_den K (fun s w => B1 [s 0, s 1, s 12, s 13] w) s w) (fun s w h => s19_p5_ok K B1 s w @h) (fun i => (tr_bif (fun s w h => s19_p1_ok K s w @h) tr_id)) (by kernel_rfl) (by kernel_rfl) @h
def s19_p7_F (K : Value → World → Prop) (B1 : List Value → World → Prop) (l : List Value) (w : World) : Prop :=
  match l with
  | [t0, t1, t12, t13] => s19_p6 K B1 t0 t1 t12 t13 w
  | _ => False
theorem s19_p7_Fe {K : Value → World → Prop} {B1 : List Value → World → Prop} {t0 t1 t12 t13 : Value} {w : World} : s19_p7_F K B1 [t0, t1, t12, t13] w = s19_p6 K B1 t0 t1 t12 t13 w := by kernel_rfl
def s19_p7 (K : Value → World → Prop) (t0 t1 t12 t13 : Value) (w : World) : Prop :=
  LoopL (s19_p7_F K) [t0, t1, t12, t13] w
def s19_p7_den (K : Value → World → Prop) : (Nat → Value) → World → Prop := fun s w => LoopP (fun M1 s w => s19_p6_den K M1 s w) s w
theorem s19_p7_ok (K : Value → World → Prop) (s : Nat → Value) (w : World) (h : s19_p7 K (s 0) (s 1) (s 12) (s 13) w) : Tr (s19_p7_den K s w) :=
  tr_loop (G := fun N' s w => s19_p6_den K N' s w) (F := s19_p7_F K) (sel := fun s => [s 0, s 1, s 12, s 13]) (s := s) (w := w) (p := s19_p7 K (s 0) (s 1) (s 12) (s 13) w) (q := s19_p7_den K s w) (fun B s w h => s19_p6_ok K B s w @h) (by kernel_rfl) (by kernel_rfl) @h
def s19_p8 (K : Value → World → Prop) (t0 t1 : Value) (w : World) : Prop :=
  lnS t0 (fun t7 w =>
  lnS t1 (fun t9 w =>
  boI .neq t7 t9 (fun t10 w =>
  ifb t10
  (K (.bool false) w)
  (lnS t0 (fun t12 w =>
  s19_p7 K t0 t1 t12 (.int .i64 0) w) w)) w) w) w
def s19_p8_den (K : Value → World → Prop) : (Nat → Value) → World → Prop := denL Tryz.prog [(cd (Tryz.f19.body.getD .skip) [0]), (cd (Tryz.f19.body.getD .skip) [1, 0, 0]), (cd (Tryz.f19.body.getD .skip) [1, 0, 1]), (cd (Tryz.f19.body.getD .skip) [1, 1, 0, 0])] (s19_p7_den K) (fun i => (fun _ _ => False)) (s19_R K)
theorem s19_p8_ok (K : Value → World → Prop) (s : Nat → Value) (w : World) (h : s19_p8 K (s 0) (s 1) w) : Tr (s19_p8_den K s w) :=
  tr_simple (P := Tryz.prog) (codes := [(cd (Tryz.f19.body.getD .skip) [0]), (cd (Tryz.f19.body.getD .skip) [1, 0, 0]), (cd (Tryz.f19.body.getD .skip) [1, 0, 1]), (cd (Tryz.f19.body.getD .skip) [1, 1, 0, 0])]) (N := (fun s w => s19_p7 K (s 0) (s 1) (s 12) (s 13) w)) (N' := (s19_p7_den K)) (X := (fun i => (fun _ _ => False))) (X' := (fun i => (fun _ _ => False))) (R := s19_R K) (s := s) (w := w) (p := s19_p8 K (s 0) (s 1) w) (q := s19_p8_den K s w) (fun s w h => s19_p7_ok K s w @h) (fun i => tr_id) (by kernel_rfl) (by kernel_rfl) @h
/-- the call, from the text -/
theorem c19 (t0 t1 : Value) {K : Value → World → Prop} {w : World} (h : s19_p8 K t0 t1 w) : cl Tryz.prog 19 #[t0, t1] K w :=
  calls_of_tr (c := (Tryz.f19.body.getD .skip)) (fn := Tryz.f19) (q := s19_p8_den K (st0 #[t0, t1]) w) Tryz.func19 (by kernel_rfl) (by kernel_rfl) (Nat.le_of_ble_eq_true (by kernel_rfl)) (by kernel_rfl) (by kernel_rfl) (s19_p8_ok K (st0 #[t0, t1]) w @h)

end Go.Proofs.Qxb6500896aGreatDoor
