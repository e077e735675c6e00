import Derived.Test.Qxb6500896aGreatK39
namespace Go.Proofs.Qxb6500896aGreat
open Go.Sh Go.RowKit
set_option linter.unusedVariables false
set_option linter.unusedSimpArgs false

/-- table, lines and what was given out, while the lines are served -/
structure SvM (M0 : Nat → Prop) (w0 : World) (t : Nat) (rob0 : Option Nat) (n wb : Nat) (lobs0 : List (Option Nat)) (C : Cfg) (L : Nat) (w : World) (iv : Value) (s : SrvS) : Prop where
  ex : ∃ M rob lobs ib, Ext M0 M w0 w ∧ Kp (fun b => OwnT t rob0 b ∨ OwnL n wb lobs0 b) w0 w ∧ (∀ b, OwnT t rob b ∨ OwnL n wb lobs b → OwnT t rob0 b ∨ OwnL n wb lobs0 b ∨ w0.heap.size ≤ b) ∧ Tb M w t rob C s.rs ∧ Li M w n wb lobs C s.ls ∧ Sl isC2 2 w 90 (some ib) iv s.iss ∧ w0.heap.size ≤ ib ∧ M ib
  ts : TS C s.rs s.ls
  ln : s.ls.length = L
  il : s.iss.length + waits s.rs ≤ 16777216
section
variable {M0 M : Nat → Prop} {w0 w w' : World} {t n wb L : Nat} {rob0 rob : Option Nat} {lobs0 lobs : List (Option Nat)} {C : Cfg} {iv : Value} {s : SrvS} {K : Value → World → Prop} {id slot now : Int} {rs : List Rec} {ls : List (List Int)}
theorem SvM.kp (h : SvM M0 w0 t rob0 n wb lobs0 C L w iv s) (hk : Kp Emp w w') : SvM M0 w0 t rob0 n wb lobs0 C L w' iv s := by
  obtain ⟨M, rob, lobs, ib, hx, k, o, tb, li, si, hi, hm⟩ := h.ex
  exact ⟨⟨M, rob, lobs, ib, hx.trans (Ext.same tb.lt hk), k.trans hk.none, o, tb.kp' hk, li.kp' hk, si.kp' hk, hi, hm⟩, h.ts, h.ln, h.il⟩
theorem tb_ty (h : Tb M w t rob C rs) {b : Nat} (hb : OwnT t rob b) : ∃ T l, Row w b T l ∧ T ≠ 90 := by
  obtain ⟨cl, rv, r1, _, its, _, s1, _⟩ := h.ex
  rcases hb with q | q
  · exact ⟨_, _, q ▸ r1, by decide⟩
  · obtain ⟨l, hl⟩ := s1.row q
    exact ⟨_, _, hl, by decide⟩
theorem li_ty (h : Li M w n wb lobs C ls) {b : Nat} (hb : OwnL n wb lobs b) : ∃ T l, Row w b T l ∧ T ≠ 90 := by
  obtain ⟨cl2, its2, q1, _, e1, e2, e3, e4, _⟩ := h.ex
  rcases hb with q | q | q
  · exact ⟨_, _, q ▸ q1, by decide⟩
  · exact ⟨_, _, q ▸ e3, by decide⟩
  · rw [← e2] at q
    obtain ⟨p, hp, hb⟩ := List.mem_map.1 q
    obtain ⟨l2, hl2⟩ := (e4 p hp).1.row hb
    exact ⟨_, _, hl2, by decide⟩
theorem is_ne {ib : Nat} {xs : List Iss} (si : Sl isC2 2 w 90 (some ib) iv xs) {b : Nat} (h : ∃ T l, Row w b T l ∧ T ≠ 90) : ib ≠ b := by
  obtain ⟨T, l, hr, hT⟩ := h
  obtain ⟨l2, hl2⟩ := si.row rfl
  exact fun e => row_ne hr hl2 hT e.symm
/-- one party gets its window -/
theorem sv_step (cv : CV C) (h : SvM M0 w0 t rob0 n wb lobs0 C L w iv s) (hid : has s.rs id) (h7 : (rget s.rs id).st = 7) (hs : 0 ≤ slot ∧ slot ≤ 4398046511104) (hi63 : 0 ≤ id ∧ id ≤ 9223372036854775807) {X : Value → World → Prop}
    (hX : ∀ w' iv', SvM M0 w0 t rob0 n wb lobs0 C L w' iv' ⟨(tIssue id slot s.rs).1, tRemove id s.ls, s.iss ++ [⟨id, slot⟩]⟩ → X iv' w') :
    cl Tryz.prog 243 #[P t 0, I id, I slot] (fun _ w => cl Tryz.prog 235 #[P n 0, I id] (fun _ w => bdq [I 0, I 0] [(some (0, 1), I id), (some (1, 1), I slot)] (fun t62 w => bsq 90 [I 0, I 0] 1 [(some (0, 2), t62)] (fun t63 w => apq 90 [I 0, I 0] 16 iv t63 X w) w) w) w) w := by
  obtain ⟨M, rob, lobs, ib, hx, k, o, tb, li, si, hi, hm⟩ := h.ex
  have hil := h.il
  have hw := tIssue_w (slot := slot) hid h7
  refine issue_ok cv h.ts.ti tb hi63 fun w1 M1 rob1 hx1 hk1 ho1 tb1 => ?_
  have li1 := li_tb tb li hx1 hk1
  have si1 := si.kp hk1 fun b e q => by cases e; exact is_ne si (tb_ty tb q) rfl
  refine remove_ok li1 fun w2 M2 lobs2 hx2 hk2 ho2 li2 => ?_
  have tb2 := tb_li tb1 li1 hx2 hk2
  have si2 := si1.kp hk2 fun b e q => by cases e; exact is_ne si1 (li_ty li1 q) rfl
  have m2 : M2 ib := hx2.sub _ (hx1.sub _ hm)
  refine bdq_r (l := isC2 ⟨id, slot⟩) rfl ?_
  refine si2.app isC2_len rfl ⟨id, slot⟩ rfl (by omega) (by omega) rfl fun w3 iv3 ob3 si3 hk3 ho3 => ?_
  have sz := k.size
  have sz1 := hk1.size
  have sz2 := hk2.size
  have sz3 := hk3.size
  obtain ⟨ib3, hb3, hi3, hor3⟩ : ∃ ib3, ob3 = some ib3 ∧ w0.heap.size ≤ ib3 ∧ (M2 ib3 ∨ w2.heap.size ≤ ib3) := by
    rcases ho3 with q | ⟨c, q, hc⟩
    · exact ⟨ib, q, hi, .inl m2⟩
    · exact ⟨c, q, by omega, .inr hc⟩
  subst hb3
  have hk3' : Kp (fun b => b = ib) w2 w3 := hk3.mono fun b _ q => by cases q; rfl
  have hx3 : Ext M2 (fun b => M2 b ∨ some ib3 = some b) w2 w3 := Ext.add? tb2.lt hk3' (fun b e => by cases e; exact hor3) (fun b e => by cases e; exact si3.lt)
  have hS3 : ∀ b, b = ib → b < w2.heap.size → M2 b := fun b q _ => q ▸ m2
  have tb3 := tb2.ext hx3 hk3' hS3 fun b q e => is_ne si2 (tb_ty tb2 q) e.symm
  have li3 := li2.ext hx3 hk3' hS3 fun b q e => is_ne si2 (li_ty li2 q) e.symm
  refine hX w3 iv3 ⟨⟨_, rob1, lobs2, ib3, ((hx.trans hx1).trans hx2).trans hx3, ?_, fun b q => ?_, tb3, li3, si3, hi3, .inr rfl⟩, h.ts.issue hid h7 hs, by rw [tRemove_len]; exact h.ln, by simp only [List.length_append, List.length_singleton]; omega⟩
  · have o' : ∀ b, b < w0.heap.size → (OwnT t rob b ∨ OwnL n wb lobs b) → (OwnT t rob0 b ∨ OwnL n wb lobs0 b) := fun b hb q => by
      rcases o b q with q | q | q
      · exact .inl q
      · exact .inr q
      · omega
    refine ((k.then hk1 fun b hb q => o' b hb (.inl q)).then hk2 fun b hb q => o' b hb (.inr q)).then hk3' fun b hb (q : b = ib) => by omega
  · have o1 : OwnT t rob1 b ∨ OwnL n wb lobs b → OwnT t rob0 b ∨ OwnL n wb lobs0 b ∨ w0.heap.size ≤ b := fun q => by
      rcases q with q | q
      · rcases ho1 b q with q | q
        · exact o b (.inl q)
        · exact .inr (.inr (by omega))
      · exact o b (.inr q)
    rcases q with q | q | q | q
    · exact o1 (.inl q)
    · exact o1 (.inr (.inl q))
    · exact o1 (.inr (.inr (.inl q)))
    · rcases ho2 b q with q | q
      · exact o1 (.inr (.inr (.inr q)))
      · exact .inr (.inr (by omega))
end
end Go.Proofs.Qxb6500896aGreat
