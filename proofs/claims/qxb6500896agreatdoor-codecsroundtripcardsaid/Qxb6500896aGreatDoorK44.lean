import Derived.Test.Qxb6500896aGreatDoorK43
namespace Go.Proofs.Qxb6500896aGreatDoor
open Go.Sh Go.RowKit
set_option linter.unusedVariables false
set_option linter.unusedSimpArgs false

def rRec (s : RS) : Rec × RS :=
  let a := rNum s
  let b := rUp 9 a.2
  let c := rNum b.2
  let d := rNum c.2
  let e := rNum d.2
  let f := rNum e.2
  let g := rLegs 8 f.2
  (⟨(a.1 : Nat), (b.1 : Nat), (c.1 : Nat), (d.1 : Nat), (e.1 : Nat), (f.1 : Nat), g.1⟩, g.2)
section
variable {F S : Nat → Prop} {w w' : World} {v : Value} {rb qb : Nat} {s : RS} {K : Value → World → Prop} {l : List Value}
theorem rq_up {k m : Nat} {X : World → Prop} {T : TypeId} (hm : m ≤ 9223372036854775807) (h : Rd F w rb s) (hq : Row w qb T l) (hk : k < l.length) (hr : rb ≠ qb) (hF : ∀ b, F b → b ≠ qb)
    (hX : ∀ w', Rd F w' rb (rUp m s).2 → Row w' qb T (l.set k (I ((rUp m s).1 : Nat))) → Kp (fun b => b = rb ∨ b = qb) w w' → X w') :
    cl Tryz.prog 43 #[P rb 0, I (m : Nat)] (fun t w => fd k (P qb 0) (fun p w => st1 p t (fun w => X w) w) w) w := by
  refine rup_ok hm h fun w1 r1 hk1 => ?_
  show st1 ((⟨qb, 0, none⟩ : Addr).add k |> some |> Value.pointer) _ _ _
  rw [add_mk, Nat.zero_add]
  refine st1_r (hk1.row hq (fun e => hr e.symm)) hk rfl fun w2 r2 hk2 hz2 => ?_
  exact hX w2 (r1.kp hk2 hF hr) r2 ((hk1.mono fun b _ q => .inl q).trans (hk2.mono fun b _ q => .inr q))
set_option maxHeartbeats 2000000 in
theorem rrec_ok (h : Rd F w rb s) (hF : ∀ b, F b → b < w.heap.size) (hK : ∀ w' lv, Rd F w' rb (rRec s).2 → Ar lC 2 (Nb w w') w' lv (rRec s).1.legs → Kp (fun b => b = rb) w w' → K (.agg (rC ((rRec s).1, lv)).toArray) w') : cl Tryz.prog 45 #[P rb 0] K w := by
  have hrl := h.lt
  apply c45
  unfold s45_p1
  refine nw_r fun w1 r1 hk1 hz1 => ?_
  replace r1 : Row w1 w.heap.size 66 (rC (zRec, nilS)) := r1
  refine nw_r fun w2 r2 hk2 hz2 => ?_
  replace r2 : Row w2 w1.heap.size 66 (rC (zRec, nilS)) := r2
  have k2 := hk1.trans hk2
  have hF2 : ∀ b, F b → b ≠ w1.heap.size := fun b q => by have := hF b q; omega
  have d2 := h.kp' k2
  have q2 := hk2.row' r1
  have step : ∀ {wa wb : World}, Kp (fun b => b = rb) w wa → Kp (fun b => b = rb ∨ b = w1.heap.size) wa wb → Kp (fun b => b = rb) w wb := fun a b => a.then b fun k hk q => by
    rcases q with q | q
    · exact q
    · omega
  refine rq_num (k := 0) d2 r2 (by simp [rC]) (by omega) hF2 fun w3 d3 r3 kk3 => ?_
  have k3 := step k2.none kk3
  have q3 := kk3.row q2 (by omega)
  refine rq_up (k := 1) (m := 9) (by decide) d3 r3 (by simp [rC]) (by omega) hF2 fun w4 d4 r4 kk4 => ?_
  have k4 := step k3 kk4
  have q4 := kk4.row q3 (by omega)
  refine rq_num (k := 2) d4 r4 (by simp [rC]) (by omega) hF2 fun w5 d5 r5 kk5 => ?_
  have k5 := step k4 kk5
  have q5 := kk5.row q4 (by omega)
  refine rq_num (k := 3) d5 r5 (by simp [rC]) (by omega) hF2 fun w6 d6 r6 kk6 => ?_
  have k6 := step k5 kk6
  have q6 := kk6.row q5 (by omega)
  refine rq_num (k := 4) d6 r6 (by simp [rC]) (by omega) hF2 fun w7 d7 r7 kk7 => ?_
  have k7 := step k6 kk7
  have q7 := kk7.row q6 (by omega)
  refine rq_num (k := 5) d7 r7 (by simp [rC]) (by omega) hF2 fun w8 d8 r8 kk8 => ?_
  have k8 := step k7 kk8
  have q8 := kk8.row q7 (by omega)
  have sz8 : w2.heap.size ≤ w8.heap.size := by
    have := kk3.size; have := kk4.size; have := kk5.size; have := kk6.size; have := kk7.size; have := kk8.size
    omega
  refine rq_legs (k := 6) d8 r8 (by simp [rC]) (by omega) hF2 (fun b q => by have := hF b q; omega) fun w9 lv d9 r9 hl9 kk9 => ?_
  have k9 := step k8 kk9
  have q9 := kk9.row q8 (by omega)
  replace r9 : Row w9 w1.heap.size 66 (rC ((rRec s).1, lv)) := r9
  have hsc := hl9.scal
  refine ldn_r r9 (show 0 + 7 ≤ 7 by decide) ?_
  refine stn_r (cs := rC ((rRec s).1, lv)) q9 rfl (show 0 + 7 ≤ 7 by decide) (rC_sc hsc) fun w10 r10 hk10 hz10 => ?_
  replace r10 : Row w10 w.heap.size 66 (rC ((rRec s).1, lv)) := r10
  refine ldn_r r10 (show 0 + 7 ≤ 7 by decide) ?_
  refine hK w10 lv (d9.kp hk10 (fun b q e => by have := hF b q; omega) (by omega)) ?_ (k9.then hk10 fun k hk (q : k = _) => by omega)
  exact (hl9.kp hk10 fun b hb (e : b = _) => by have := hb.1; omega).mono fun b hb => ⟨by have := hb.1; omega, by have := hb.2; omega⟩
end
end Go.Proofs.Qxb6500896aGreatDoor
