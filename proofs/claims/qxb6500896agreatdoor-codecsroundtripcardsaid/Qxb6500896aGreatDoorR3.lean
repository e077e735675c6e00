import Derived.Test.Qxb6500896aGreatDoorR2
namespace Go.Proofs.Qxb6500896aGreatDoor
open Go.Sh Go.RowKit
set_option linter.unusedVariables false
set_option linter.unusedSimpArgs false

section
variable {F G S : Nat → Prop} {w w' w0 w1 : World} {v iv rv wv : Value} {rb qb t2 k : Nat} {s s' : RS} {K : Value → World → Prop} {cs : List Value} {p : Rp} {b : Int}
abbrev Dro (F : Nat → Prop) (w0 w : World) (rb qb t2 : Nat) (s : RS) (b : Int) : Prop := Dr F w0 w rb qb t2 s ((rpo b).cells nilS nilS nilS)
theorem dr_p2 (h : Dro F w0 w rb qb t2 s b) (hK : DK K w0 (({ rpo b with id := ((rNum s).1 : Nat), ex := ((rNum (rNum s).2).1 : Nat) }, (rNum (rNum s).2).2))) : s14_p2 K (P t2 0) (P rb 0) (P qb 0) w := by
  unfold s14_p2
  refine Dr.num (k := 2) h (by decide) fun w1 h1 _ => ?_
  refine Dr.num (k := 3) h1 (by decide) fun w2 h2 _ => ?_
  exact dr_plain h2 rfl rfl rfl rfl rfl hK
theorem dr_p3 (h : Dro F w0 w rb qb t2 s b) (hK : DK K w0 (({ rpo b with id := ((rNum s).1 : Nat), pos := ((rNum (rNum s).2).1 : Nat) }, (rNum (rNum s).2).2))) : s14_p3 K (P t2 0) (P rb 0) (P qb 0) w := by
  unfold s14_p3
  refine Dr.num (k := 2) h (by decide) fun w1 h1 _ => ?_
  refine Dr.num (k := 4) h1 (by decide) fun w2 h2 _ => ?_
  exact dr_plain h2 rfl rfl rfl rfl rfl hK
theorem dr_p13 (h : Dro F w0 w rb qb t2 s b) (hK : DK K w0 (({ rpo b with now := ((rNum s).1 : Nat), la := ((rNum (rNum s).2).1 : Nat), gr := ((rNum (rNum (rNum s).2).2).1 : Nat) }, (rNum (rNum (rNum s).2).2).2))) : s14_p13 K (P t2 0) (P rb 0) (P qb 0) w := by
  unfold s14_p13
  refine Dr.num (k := 6) h (by decide) fun w1 h1 _ => ?_
  refine Dr.num (k := 19) h1 (by decide) fun w2 h2 _ => ?_
  refine Dr.num (k := 20) h2 (by decide) fun w3 h3 _ => ?_
  exact dr_plain h3 rfl rfl rfl rfl rfl hK
theorem dr_p14 (h : Dro F w0 w rb qb t2 s b) (hK : DK K w0 (({ rpo b with sl := ((rNum s).1 : Nat) }, (rNum s).2))) : s14_p14 K (P t2 0) (P rb 0) (P qb 0) w := by
  unfold s14_p14
  refine Dr.num (k := 21) h (by decide) fun w1 h1 _ => ?_
  exact dr_plain h1 rfl rfl rfl rfl rfl hK
theorem dr_p4 (h : Dro F w0 w rb qb t2 s b) (hK : DK K w0 ({ rpo b with st := ((rUp 9 s).1 : Nat) }, (rUp 9 s).2)) : s14_p4 K (P t2 0) (P rb 0) (P qb 0) w := by
  unfold s14_p4
  refine Dr.up (k := 5) h (by decide) fun w1 h1 => ?_
  exact dr_plain h1 rfl rfl rfl rfl rfl hK
theorem dr_p5 (h : Dro F w0 w rb qb t2 s b) (hK : DK K w0 ({ rpo b with now := ((rNum s).1 : Nat), iss := (rIss (rNum s).2).1, exd := ((rNum (rIss (rNum s).2).2).1 : Nat), ns := ((rNum (rNum (rIss (rNum s).2).2).2).1 : Nat), lp := ((rNum (rNum (rNum (rIss (rNum s).2).2).2).2).1 : Nat) }, (rNum (rNum (rNum (rIss (rNum s).2).2).2).2).2)) : s14_p5 K (P t2 0) (P rb 0) (P qb 0) w := by
  unfold s14_p5
  refine Dr.num (k := 6) h (by decide) fun w1 h1 _ => ?_
  have sz1 := h1.sz
  have kz := h1.k.size
  refine riss_ok h1.rd h1.sl (fun b q => by have := h1.f b q; omega) fun w2 iv r2 ai hk2 => ?_
  have := rIss_le (rNum s).2
  have := h1.sl
  have sz2 := hk2.size
  refine h1.go (k := 7) r2 hk2 (by omega) (by decide) ai.scal fun w3 h3 hk3 hz3 => ?_
  refine Dr.num (k := 8) h3 (by decide) fun w4 h4 hk4 => ?_
  refine Dr.num (k := 9) h4 (by decide) fun w5 h5 hk5 => ?_
  refine Dr.num (k := 10) h5 (by decide) fun w6 h6 hk6 => ?_
  have k4 : Kp (fun b => b = rb ∨ b = qb) w2 w6 := (((hk3.mono fun b _ (q : b = qb) => .inr q).trans hk4).trans hk5).trans hk6
  refine dr_end (iv := iv) (rv := nilS) (wv := nilS) (G := Nb w1 w2) h6 rfl (ai.kp k4 fun b hb q => by have := hb.1; omega) ⟨[], rfl, Ar.nil, fun p hp => by cases hp⟩ Ar.nil rfl (fun b hb => ⟨by have := hb.1; omega, by have := hb.2; have := k4.size; omega⟩) hK
theorem dr_p6 (h : Dro F w0 w rb qb t2 s b) (hK : DK K w0 ({ rpo b with recs := [(rRec s).1] }, (rRec s).2)) : s14_p6 K (P t2 0) (P rb 0) (P qb 0) w := by
  unfold s14_p6
  have sz := h.sz
  have kz := h.k.size
  refine rrec_ok h.rd (fun b q => by have := h.f b q; omega) fun w1 lv r1 al hk1 => ?_
  have := rRec_le s
  have := h.sl
  have sz1 := hk1.size
  have hl7 : (rC ((rRec s).1, lv)).length = 7 := rC_len _
  refine bsq_r (l := rC ((rRec s).1, lv)) ?_ fun w2 r2 hk2 hz2 => ?_
  · rfl
  have hk12 : Kp (fun b => b = rb) w w2 := hk1.trans hk2.none
  refine h.go (k := 11) (r1.kp' hk2) hk12 (by omega) (by decide) rfl fun w3 h3 hk3 hz3 => ?_
  have ar : Ar rC 7 (fun b => qb < b ∧ b < w3.heap.size) w3 (.slice (some ⟨w1.heap.size, 0, none⟩) 1 1) [((rRec s).1, lv)] := Ar.row (xs := [((rRec s).1, lv)]) rC_len (by rw [rows_cons]; show Row _ _ _ (_ ++ []); rw [List.append_nil]; exact hk3.row r2 (show ¬ w1.heap.size = qb by omega)) ⟨by omega, by omega⟩ (by simp)
  refine dr_end (p := { rpo b with recs := [(rRec s).1] }) (iv := nilS) (rv := .slice (some ⟨w1.heap.size, 0, none⟩) 1 1) (wv := nilS) (G := fun b => qb < b ∧ b < w3.heap.size) h3 rfl Ar.nil ⟨[((rRec s).1, lv)], rfl, ar, fun p hp => ?_⟩ Ar.nil rfl (fun b hb => hb) hK
  rw [List.mem_singleton.1 hp]
  exact ((al.kp' hk2).kp hk3 fun b hb (q : b = qb) => by have := hb.1; omega).mono fun b hb => ⟨by have := hb.1; omega, by have := hb.2; omega⟩
theorem dr_p7 (h : Dro F w0 w rb qb t2 s b) (hK : DK K w0 ({ rpo b with nx := ((rNum s).1 : Nat), recs := (rRecs (rNum s).2).1 }, (rRecs (rNum s).2).2)) : s14_p7 K (P t2 0) (P rb 0) (P qb 0) w := by
  unfold s14_p7
  refine Dr.num (k := 12) h (by decide) fun w1 h1 _ => ?_
  have sz1 := h1.sz
  have kz := h1.k.size
  have hrn := rRecs_n (rNum s).2
  refine rrecs_ok h1.rd h1.sl (fun b q => by have := h1.f b q; omega) fun w2 rv rob its r2 e2 sl2 ho2 al2 hk2 => ?_
  have := rRecs_le (rNum s).2
  have hsl := h1.sl
  have sz2 := hk2.size
  have hil : its.length = (rRecs (rNum s).2).1.length := by rw [← e2, List.length_map]
  refine h1.go (k := 11) r2 hk2 (by omega) (by decide) (sl_scal sl2) fun w3 h3 hk3 hz3 => ?_
  refine dr_end (iv := nilS) (rv := rv) (wv := nilS) (G := Nb w1 w2) h3 rfl Ar.nil ⟨its, e2, ?_, fun p hp => ?_⟩ Ar.nil rfl (fun b hb => ⟨by have := hb.1; omega, by have := hb.2; omega⟩) hK
  · exact (sl2.ar (F := Nb w1 w2) rC_len (by omega) ho2).kp hk3 fun b hb (q : b = qb) => by have := hb.1; omega
  · exact ((al2 p hp).mono fun b hb => hb.1).kp hk3 fun b hb (q : b = qb) => by have := hb.1; omega
theorem dr_p12 (h : Dro F w0 w rb qb t2 s b) (hK : DK K w0 ({ rpo b with wt := (rIds s).1 }, (rIds s).2)) : s14_p12 K (P t2 0) (P rb 0) (P qb 0) w := by
  unfold s14_p12
  have sz := h.sz
  have kz := h.k.size
  refine rids_ok h.rd h.sl (fun b q => by have := h.f b q; omega) fun w2 wv ob r2 sl2 ho2 hk2 => ?_
  have := rIds_le s
  have := (rIds_N s).2
  have hsl := h.sl
  have sz2 := hk2.size
  refine h.go (k := 18) r2 hk2 (by omega) (by decide) (sl_scal sl2) fun w3 h3 hk3 hz3 => ?_
  refine dr_end (p := { rpo b with wt := (rIds s).1 }) (iv := nilS) (rv := nilS) (wv := wv) (G := Nb w w2) h3 rfl Ar.nil ⟨[], rfl, Ar.nil, fun p hp => by cases hp⟩ ?_ rfl (fun b hb => ⟨by have := hb.1; omega, by have := hb.2; omega⟩) hK
  exact (sl2.ar (F := Nb w w2) iC_len (by omega) ho2).kp hk3 fun b hb (q : b = qb) => by have := hb.1; omega
theorem ixp {len k o : Nat} {i : Nat} {X : Value → World → Prop} (hi : i < len) (h : X (P k (o + i)) w) : ixa len 1 (P k o) (I (i : Nat)) X w := by
  refine ⟨⟨by omega, by omega⟩, ?_⟩
  rw [add_mk, show o + ((i : Nat) : Int).toNat * 1 = o + i by omega]
  exact h
theorem Dr.numA {len o i : Nat} {X : World → Prop} (h : Dr F w0 w rb qb t2 s cs) (hi : i < len) (ho : o + i < 34) (hX : ∀ w', Dr F w0 w' rb qb t2 (rNum s).2 (cs.set (o + i) (I ((rNum s).1 : Nat))) → X w') :
    cl Tryz.prog 39 #[P rb 0] (fun t w => fd o (P qb 0) (fun p w => ixa len 1 p (I (i : Nat)) (fun p w => st1 p t (fun w => X w) w) w) w) w := by
  refine rnum_ok h.rd fun w1 r1 hk1 => ?_
  have := rNum_le s
  have := h.sl
  refine fdp (ixp hi ?_)
  have hg := h.go (k := o + i) (x := I ((rNum s).1 : Nat)) (X := X) r1 hk1 (by omega) ho rfl fun w2 h2 hk2 hz2 => hX w2 h2
  have e : fd (o + i) (P qb 0) (fun p w => st1 p (I ((rNum s).1 : Nat)) (fun w => X w) w) w1 = st1 (P qb (o + i)) (I ((rNum s).1 : Nat)) (fun w => X w) w1 := by
    show st1 (.pointer (some ((⟨qb, 0, none⟩ : Addr).add (o + i)))) _ _ _ = _
    rw [add_mk, Nat.zero_add]
  rw [e] at hg
  exact hg
theorem list3 : ∀ {l : List Int}, l.length = 3 → ∃ a b c, l = [a, b, c]
  | [a, b, c], _ => ⟨a, b, c, rfl⟩
theorem list9 : ∀ {l : List Int}, l.length = 9 → ∃ a b c d e f g h i, l = [a, b, c, d, e, f, g, h, i]
  | [a, b, c, d, e, f, g, h, i], _ => ⟨a, b, c, d, e, f, g, h, i, rfl⟩
theorem dr_p17 (h : Dro F w0 w rb qb t2 s b) (hK : DK K w0 ({ rpo b with cnt := 0 :: (rIdsN 9 s).1 }, (rIdsN 9 s).2)) : s14_p17 K (P t2 0) (P rb 0) (P qb 0) w := by
  unfold s14_p17 s14_p16
  refine loop_n 9 (fun i l w' => l = [P t2 0, P rb 0, P qb 0, I ((i + 1 : Nat) : Int)] ∧ Dr F w0 w' rb qb t2 (rIdsN i s).2 (puts ((rpo b).cells nilS nilS nilS) 23 (rIdsN i s).1)) ⟨rfl, by rw [rIdsN]; exact h⟩ ?_ ?_
  · rintro i l w1 hi ⟨rfl, h1⟩ B hB
    rw [s14_p16_Fe]
    unfold s14_p15
    have e1 : decide (((i + 1 : Nat) : Int) < 10) = true := decide_eq_true (by omega)
    simp only [e_lss, e1, e_ift]
    refine Dr.numA (i := i + 1) h1 (by omega) (by omega) fun w2 h2 => ?_
    simp only [e_add]
    rw [wrap64_id (by omega) (by omega), show ((i + 1 : Nat) : Int) + 1 = ((i + 1 + 1 : Nat) : Int) by omega]
    obtain ⟨q1, q2⟩ := rIdsN_snoc i s
    refine hB _ _ ⟨rfl, ?_⟩
    rw [q1, q2, puts_snoc, rIdsN_len, show 23 + i = 22 + (i + 1) by omega]
    exact h2
  · rintro l w1 ⟨rfl, h1⟩ B
    rw [s14_p16_Fe]
    unfold s14_p15
    have e1 : decide (((9 + 1 : Nat) : Int) < 10) = false := by decide
    simp only [e_lss, e1, e_iff]
    refine dr_plain (p := { rpo b with cnt := 0 :: (rIdsN 9 s).1 }) h1 ?_ rfl rfl rfl (by show (0 :: (rIdsN 9 s).1).length = 10; rw [List.length_cons, rIdsN_len]) hK
    obtain ⟨a1, a2, a3, a4, a5, a6, a7, a8, a9, e9⟩ := list9 (rIdsN_len 9 s)
    rw [e9]
    rfl
theorem dr_p11 (h : Dro F w0 w rb qb t2 s b) (hK : DK K w0 ({ rpo b with oc := ((rNum s).1 : Nat), e0 := ((rNum (rNum s).2).1 : Nat), e1 := ((rNum (rNum (rNum s).2).2).1 : Nat), e2 := ((rNum (rNum (rNum (rNum s).2).2).2).1 : Nat), fr := ((rNum (rNum (rNum (rNum (rNum s).2).2).2).2).1 : Nat) }, (rNum (rNum (rNum (rNum (rNum s).2).2).2).2).2)) : s14_p11 K (P t2 0) (P rb 0) (P qb 0) w := by
  unfold s14_p11
  refine Dr.num (k := 13) h (by decide) fun w1 h1 _ => ?_
  have e3 : rIdsN 3 (rNum s).2 = ([(((rNum (rNum s).2).1 : Nat) : Int), (((rNum (rNum (rNum s).2).2).1 : Nat) : Int), (((rNum (rNum (rNum (rNum s).2).2).2).1 : Nat) : Int)], (rNum (rNum (rNum (rNum s).2).2).2).2) := by
    rfl
  unfold s14_p10
  refine loop_n 3 (fun i l w' => l = [P t2 0, P rb 0, P qb 0, I (i : Nat)] ∧ Dr F w0 w' rb qb t2 (rIdsN i (rNum s).2).2 (puts (((rpo b).cells nilS nilS nilS).set 13 (I ((rNum s).1 : Nat))) 14 (rIdsN i (rNum s).2).1)) ⟨rfl, by rw [rIdsN]; exact h1⟩ ?_ ?_
  · rintro i l w2 hi ⟨rfl, h2⟩ B hB
    rw [s14_p10_Fe]
    unfold s14_p9
    have e1 : decide (((i : Nat) : Int) < 3) = true := decide_eq_true (by omega)
    simp only [e_lss, e1, e_ift]
    refine Dr.numA (i := i) h2 (by omega) (by omega) fun w3 h3 => ?_
    simp only [e_add]
    rw [inc i (by omega)]
    obtain ⟨q1, q2⟩ := rIdsN_snoc i (rNum s).2
    refine hB _ _ ⟨rfl, ?_⟩
    rw [q1, q2, puts_snoc, rIdsN_len]
    exact h3
  · rintro l w2 ⟨rfl, h2⟩ B
    rw [s14_p10_Fe]
    unfold s14_p9
    have e1 : decide (((3 : Nat) : Int) < 3) = false := by decide
    simp only [e_lss, e1, e_iff]
    rw [e3] at h2
    unfold s14_p8
    refine Dr.num (k := 17) h2 (by decide) fun w3 h3 _ => ?_
    exact dr_plain h3 rfl rfl rfl rfl rfl hK
end
end Go.Proofs.Qxb6500896aGreatDoor
