import Derived.Test.Qxb6500896aGreatDoorR4
import Derived.Test.Qxb6500896aGreatDoorN13
namespace Go.Proofs.Qxb6500896aGreatDoor
open Go.Sh Go.RowKit
set_option linter.unusedVariables false
set_option linter.unusedSimpArgs false

/-! ### every reply of an engine is read back -/
structure RpX (p : Rp) : Prop where
  code : p.code ≤ 22
  op : p.code = 0 → (1 ≤ p.op ∧ p.op ≤ 9) ∨ (16 ≤ p.op ∧ p.op ≤ 24)
  st : p.st ≤ 9
  recs : ∀ r ∈ p.recs, r.st ≤ 9
theorem RpX.rf {c : Int} (h : Cd c) (h0 : c ≠ 0) : RpX (Go.Proofs.Qxb6500896aGreatDoor.rf c) := ⟨h.2, fun q => absurd q h0, by show (0 : Int) ≤ 9; decide, fun r hr => by cases hr⟩
theorem cd2 {c : Int} (h : 0 ≤ c ∧ c ≤ 22) : Cd c := h
section
variable {C : Cfg} {seq now id st cls sz attr skip : Int} {rs : List Rec} {ls : List (List Int)} {lg : List Leg} {q : Rq} {σ : Sg} {J : Jr} {p : Rp}
/-- an answer whose status and rows are nothing -/
theorem RpX.pl (h0 : p.code = 0) (hop : (1 ≤ p.op ∧ p.op ≤ 9) ∨ (16 ≤ p.op ∧ p.op ≤ 24)) (hs : p.st = 0) (hr : p.recs = []) : RpX p := ⟨by rw [h0]; decide, fun _ => hop, by rw [hs]; decide, fun r h => by rw [hr] at h; cases h⟩
theorem rpx_mv {op c st : Int} (ho : (1 ≤ op ∧ op ≤ 9) ∨ (16 ≤ op ∧ op ≤ 24)) (hc : Cd c) (hs : c = 0 → st ≤ 9) : RpX (mvR op c st) := by
  unfold mvR
  split
  · rename_i h; exact ⟨by show (0 : Int) ≤ 22; decide, fun _ => ho, hs h, fun r hr => by cases hr⟩
  · rename_i h; exact RpX.rf hc h
theorem rpx_ap (cv : CV C) (g : SGd C σ) (hv : valid C σ.now q = 0) (hop : 1 ≤ q.op ∧ q.op ≤ 9) : RpX (apS C q σ).2 := by
  have ho : (1 ≤ q.op ∧ q.op ≤ 9) ∨ (16 ≤ q.op ∧ q.op ≤ 24) := .inl hop
  unfold apS
  by_cases c1 : q.op = 1
  · rw [if_pos c1]
    show RpX (hoR C q σ)
    unfold hoR
    split
    · exact RpX.pl rfl ho rfl rfl
    · rename_i h; exact RpX.rf tHold_c h
  rw [if_neg c1]
  have mv : ∀ {p : List Rec × Int}, Cd p.2 → (p.2 = 0 → has p.1 q.id) → (∃ ls, Gd C σ.seq σ.now p.1 ls) → RpX (mvS q σ p).2 := fun {p} hc hh ⟨ls, hg⟩ => by
    refine rpx_mv ho hc fun h0 => ?_
    exact (hg.st9 _ (hg.ids.rget (hh h0)).1).2
  by_cases c2 : q.op = 2
  · rw [if_pos c2]; exact mv tConfirm_c tConfirm_has ⟨_, g.confirm⟩
  rw [if_neg c2]
  by_cases c3 : q.op = 3
  · rw [if_pos c3]; exact mv tCancel_c tCancel_has ⟨_, g.cancel⟩
  rw [if_neg c3]
  by_cases c4 : q.op = 4
  · rw [if_pos c4]; exact mv tArrive_c tArrive_has ⟨_, g.arrive (.inl rfl)⟩
  rw [if_neg c4]
  by_cases c5 : q.op = 5
  · rw [if_pos c5]; exact mv tRebook_c tRebook_has ⟨_, g.rebook cv (valid_rebook hv c5)⟩
  rw [if_neg c5]
  by_cases c6 : q.op = 6
  · rw [if_pos c6]
    show RpX (joR q (tJoin C q.at' q.cl q.sz σ.rs σ.ls))
    unfold joR
    split
    · exact RpX.pl rfl ho rfl rfl
    · rename_i h; exact RpX.rf tJoin_c h
  rw [if_neg c6]
  by_cases c7 : q.op = 7
  · rw [if_pos c7]
    exact rpx_mv ho tLeave_c fun h0 => (g.leave.st9 _ (g.leave.ids.rget (tLeave_has h0)).1).2
  rw [if_neg c7]
  by_cases c8 : q.op = 8
  · rw [if_pos c8]; exact mv tArrive_c tArrive_has ⟨_, g.arrive (.inr rfl)⟩
  rw [if_neg c8]
  by_cases c9 : q.op = 9
  · rw [if_pos c9]
    show RpX (tkR C q σ)
    unfold tkR
    split
    · exact RpX.rf ⟨by decide, by decide⟩ (by decide)
    · exact RpX.pl rfl ho rfl rfl
  · rw [if_neg c9]; exact RpX.rf ⟨by decide, by decide⟩ (by decide)
theorem qR_rpx (g : SGd C σ) (hop : 16 ≤ q.op ∧ q.op ≤ 24) : RpX (qR C q σ) := by
  have ho : (1 ≤ q.op ∧ q.op ≤ 9) ∨ (16 ≤ q.op ∧ q.op ≤ 24) := .inr hop
  have no : ∀ {c : Int}, 0 < c → c ≤ 22 → RpX (rf c) := fun h1 h2 => RpX.rf ⟨by omega, h2⟩ (by omega)
  unfold qR
  by_cases c1 : q.op = 16
  · rw [if_pos c1]
    unfold qGet
    split
    · rename_i hh
      refine ⟨by show (0 : Int) ≤ 22; decide, fun _ => ho, by show (0 : Int) ≤ 9; decide, fun r hr => ?_⟩
      rw [List.mem_singleton.1 hr]
      exact (g.st9 _ (g.ids.rget hh).1).2
    · exact no (by decide) (by decide)
  rw [if_neg c1]
  by_cases c2 : q.op = 17
  · rw [if_pos c2]
    unfold qList
    exact ⟨by show (0 : Int) ≤ 22; decide, fun _ => ho, by show (0 : Int) ≤ 9; decide, fun r hr => (g.st9 r (List.mem_of_mem_drop (List.mem_of_mem_take hr))).2⟩
  rw [if_neg c2]
  by_cases c3 : q.op = 18
  · rw [if_pos c3]; exact RpX.pl rfl ho rfl rfl
  rw [if_neg c3]
  by_cases c4 : q.op = 19
  · rw [if_pos c4]; exact RpX.pl rfl ho rfl rfl
  rw [if_neg c4]
  by_cases c5 : q.op = 20
  · rw [if_pos c5]; exact RpX.pl rfl ho rfl rfl
  rw [if_neg c5]
  by_cases c6 : q.op = 21
  · rw [if_pos c6]
    unfold qFind
    split
    · exact no (by decide) (by decide)
    · split
      · exact RpX.pl rfl ho rfl rfl
      · exact no (by decide) (by decide)
  rw [if_neg c6]
  by_cases c7 : q.op = 22
  · rw [if_pos c7]
    unfold qQuo
    split
    · exact RpX.pl rfl ho rfl rfl
    · rename_i h; exact RpX.rf tCheck_c h
  rw [if_neg c7]
  by_cases c8 : q.op = 23
  · rw [if_pos c8]; exact RpX.pl rfl ho rfl rfl
  rw [if_neg c8]
  by_cases c9 : q.op = 24
  · rw [if_pos c9]
    unfold qPlace
    split
    · split
      · split
        · exact RpX.pl rfl ho rfl rfl
        · exact no (by decide) (by decide)
      · exact no (by decide) (by decide)
    · exact no (by decide) (by decide)
  · rw [if_neg c9]; exact no (by decide) (by decide)
theorem chgS_rpx (cv : CV C) (hmb : C.mb ≤ 1000000) (g : SGd C σ) (hv : valid C σ.now q = 0) (hop : 1 ≤ q.op ∧ q.op ≤ 9) : RpX (chgS C q σ J).2.2 := by
  unfold chgS
  simp only
  have hsame := roomS_same C { σ with ent := ent (σ.seq + 1) q } J (((ent (σ.seq + 1) q).length : Nat) : Int)
  have hrc := roomS_c (C := C) (σ := { σ with ent := ent (σ.seq + 1) q }) (J := J) (((ent (σ.seq + 1) q).length : Nat) : Int)
  generalize roomS C { σ with ent := ent (σ.seq + 1) q } J (((ent (σ.seq + 1) q).length : Nat) : Int) = r at hsame hrc ⊢
  have hap : RpX (apS C q r.1).2 := rpx_ap cv (hsame.gd g) (by rw [hsame.now]; exact hv) hop
  have hap0 : 0 ≤ (apS C q r.1).2.code → Cd (apS C q r.1).2.code := fun h => ⟨h, hap.code⟩
  split
  · split
    · split
      · exact hap
      · rename_i h; exact RpX.rf (wrtS_c _) h
    · rename_i h
      refine RpX.rf (hap0 ?_) h
      exact (rpn_ap cv hmb (hsame.gd g) (by rw [hsame.now]; exact hv) hop).code.1
  · rename_i h; exact RpX.rf hrc h
theorem stgS_rpx (cv : CV C) (hmb : C.mb ≤ 1000000) (g : σ.down = false → SGd C σ) (hR : RqN q) : RpX (stgS C q σ J).2.2 := by
  unfold stgS
  simp only
  split
  · exact RpX.rf ⟨by decide, by decide⟩ (by decide)
  · rename_i hd
    split
    · exact RpX.rf ⟨by decide, by decide⟩ (by decide)
    · rename_i hx
      have hN := xprN hR (by simpa using hx)
      have g := g (by simpa using hd)
      split
      · rename_i hv
        split
        · rename_i hq
          have hop : 16 ≤ q.op ∧ q.op ≤ 24 := by unfold isQ at hq; simpa using hq
          have hr : RpX (qR C q { σ with sr := w1 σ.sr }) := qR_rpx (show SGd C { σ with sr := w1 σ.sr } from g) hop
          have hr2 : RpN (qR C q { σ with sr := w1 σ.sr }) := qR_rpn cv hmb (show SGd C { σ with sr := w1 σ.sr } from g) hN hv hop
          show RpX (ansS C q { σ with sr := w1 σ.sr }).2
          unfold ansS
          split
          · exact hr
          · rename_i h; exact RpX.rf ⟨hr2.code.1, hr.code⟩ h
        · rename_i hq
          have hop : 1 ≤ q.op ∧ q.op ≤ 9 := by
            have := hN.op
            unfold isQ at hq
            simp only [Bool.and_eq_true, decide_eq_true_eq] at hq
            omega
          exact chgS_rpx cv hmb (show SGd C { σ with sr := w1 σ.sr } from g) hv hop
      · rename_i h; exact RpX.rf valid_c h
theorem stbS_rpx {bs : List Int} (cv : CV C) (hmb : C.mb ≤ 1000000) (g : σ.down = false → SGd C σ) : RpX (stbS C bs σ J).2.2 := by
  unfold stbS
  split
  · exact RpX.rf ⟨by decide, by decide⟩ (by decide)
  · split
    · rename_i h; exact stgS_rpx cv hmb g (dec_x h).rq
    · rename_i h; exact RpX.rf (dec_c bs) (by omega)
theorem hnd_rpx {bs : List Int} (g : σ.down = false → SGd park σ) : RpX (hndS park bs σ J).2.2 := by
  have hrp := stbS_rpx (J := J) (bs := bs) park_cv (by decide) g
  unfold hndS
  simp only
  split
  · exact hrp
  · exact RpX.rf ⟨by decide, by decide⟩ (by decide)
end
/-- what of a reply goes over the wire -/
def nrmB (p : Rp) : Rp :=
  if p.op = 1 ∨ p.op = 22 then { rpo p.op with id := p.id, ex := p.ex }
  else if p.op = 6 then { rpo p.op with id := p.id, pos := p.pos }
  else if p.op ∈ dst then { rpo p.op with st := p.st }
  else if p.op = 9 then { rpo p.op with now := p.now, iss := p.iss, exd := p.exd, ns := p.ns, lp := p.lp }
  else if p.op = 16 then { rpo p.op with recs := [p.recs.head?.getD zRec] }
  else if p.op = 17 then { rpo p.op with nx := p.nx, recs := p.recs }
  else if p.op = 18 then { rpo p.op with oc := p.oc, e0 := p.e0, e1 := p.e1, e2 := p.e2, fr := p.fr }
  else if p.op = 19 then { rpo p.op with wt := p.wt }
  else if p.op = 20 then { rpo p.op with now := p.now, la := p.la, gr := p.gr }
  else if p.op = 21 then { rpo p.op with sl := p.sl }
  else if p.op = 23 then { rpo p.op with cnt := 0 :: p.cnt.drop 1 }
  else if p.op = 24 then { rpo p.op with at' := p.at', pos := p.pos, ah := p.ah }
  else rpo p.op
def nrm (p : Rp) : Rp := if p.code = 0 then nrmB p else { rp0 with code := p.code }
theorem rIssN_enc : ∀ (l : List Iss) (r : List Int), (∀ x ∈ l, N63 x.id ∧ N63 x.slot) → rIssN l.length (encIss l ++ r, false) = (l, r, false)
  | [], r, _ => rfl
  | x :: l, r, h => by
    have hx := h x List.mem_cons_self
    have e : encIss (x :: l) = (uI x.id ++ uI x.slot) ++ encIss l := rfl
    rw [e, List.length_cons, rIssN, List.append_assoc, List.append_assoc, rNum_uI hx.1, rNum_uI hx.2, rIssN_enc l r fun y hy => h y (List.mem_cons_of_mem _ hy), toN hx.1, toN hx.2]
theorem encIss_2 (l : List Iss) : 2 * l.length ≤ (encIss l).length := by
  induction l with
  | nil => simp
  | cons x l ih =>
    have h1 := uI_pos x.id
    have h2 := uI_pos x.slot
    have e : encIss (x :: l) = (uI x.id ++ uI x.slot) ++ encIss l := rfl
    rw [e]
    simp only [List.length_append, List.length_cons]
    omega
theorem rIss_enc {l : List Iss} (hn : l.length ≤ 1000000) (h : ∀ x ∈ l, N63 x.id ∧ N63 x.slot) (r : List Int) : rIss (uI (l.length : Nat) ++ (encIss l ++ r), false) = (l, r, false) := by
  unfold rIss
  rw [rCount_enc (by decide) hn (by rw [List.length_append]; have := encIss_2 l; omega)]
  by_cases q : l.length = 0
  · have : l = [] := List.eq_nil_of_length_eq_zero q
    subst this
    rfl
  · rw [if_neg (by simp [q])]
    exact rIssN_enc l r h
section
variable {p : Rp}
theorem decRB_eB (h : RpN p) (hx : RpX p) (h0 : p.code = 0) (hc : p.cnt.length = 10) : decRB p.op (eB p, false) = (nrmB p, ([], false)) := by
  have ho := hx.op h0
  have hd : ∀ k : Int, k ∈ dst ↔ k = 2 ∨ k = 3 ∨ k = 4 ∨ k = 5 ∨ k = 7 ∨ k = 8 := fun k => by unfold dst; simp
  unfold decRB eB nrmB
  by_cases c1 : p.op = 1 ∨ p.op = 22
  · rw [if_pos c1, if_pos c1, if_pos c1]
    rw [rNum_uI h.id, ← List.append_nil (uI p.ex), rNum_uI h.ex, toN h.id, toN h.ex]
  rw [if_neg c1, if_neg c1, if_neg c1]
  by_cases c2 : p.op = 6
  · rw [if_pos c2, if_pos c2, if_pos c2]
    rw [rNum_uI h.id, ← List.append_nil (uI p.pos), rNum_uI h.pos, toN h.id, toN h.pos]
  rw [if_neg c2, if_neg c2, if_neg c2]
  by_cases c3 : p.op ∈ dst
  · rw [if_pos c3, if_pos c3, if_pos ((hd _).1 c3)]
    rw [← List.append_nil (uI p.st), rUp_uI (m := 9) h.st hx.st, toN h.st]
  rw [if_neg c3, if_neg c3, if_neg (fun q => c3 ((hd _).2 q))]
  by_cases c4 : p.op = 9
  · rw [if_pos c4, if_pos c4, if_pos c4]
    rw [List.append_assoc, List.append_assoc, List.append_assoc, List.append_assoc, rNum_uI h.now, rIss_enc h.il h.iss, rNum_uI h.exd, rNum_uI h.ns, ← List.append_nil (uI p.lp), rNum_uI h.lp, toN h.now, toN h.exd, toN h.ns, toN h.lp]
  rw [if_neg c4, if_neg c4, if_neg c4]
  by_cases c5 : p.op = 16
  · rw [if_pos c5, if_pos c5, if_pos c5]
    have hne := h.one c5 h0
    obtain ⟨r, l, e⟩ := List.exists_cons_of_ne_nil hne
    have hr : r ∈ p.recs := by rw [e]; exact List.mem_cons_self
    rw [e]
    show ({ rpo p.op with recs := [(rRec (encRec r, false)).1] }, (rRec (encRec r, false)).2) = _
    rw [← List.append_nil (encRec r), rRec_enc (h.recs r hr) (hx.recs r hr)]
    rfl
  rw [if_neg c5, if_neg c5, if_neg c5]
  by_cases c6 : p.op = 17
  · rw [if_pos c6, if_pos c6, if_pos c6]
    rw [List.append_assoc, rNum_uI h.nx, ← List.append_nil (encRs p.recs), rRecs_enc h.rl fun x hx' => ⟨h.recs x hx', hx.recs x hx'⟩, toN h.nx]
  rw [if_neg c6, if_neg c6, if_neg c6]
  by_cases c7 : p.op = 18
  · rw [if_pos c7, if_pos c7, if_pos c7]
    rw [List.append_assoc, List.append_assoc, List.append_assoc, rNum_uI h.oc, rNum_uI h.e0, rNum_uI h.e1, rNum_uI h.e2, ← List.append_nil (uI p.fr), rNum_uI h.fr, toN h.oc, toN h.e0, toN h.e1, toN h.e2, toN h.fr]
  rw [if_neg c7, if_neg c7, if_neg c7]
  by_cases c8 : p.op = 19
  · rw [if_pos c8, if_pos c8, if_pos c8]
    have := rIds_enc h.wl h.wt []
    unfold encLn at this
    rw [List.append_nil] at this
    rw [this]
  rw [if_neg c8, if_neg c8, if_neg c8]
  by_cases c9 : p.op = 20
  · rw [if_pos c9, if_pos c9, if_pos c9]
    rw [List.append_assoc, rNum_uI h.now, rNum_uI h.la, ← List.append_nil (uI p.gr), rNum_uI h.gr, toN h.now, toN h.la, toN h.gr]
  rw [if_neg c9, if_neg c9, if_neg c9]
  by_cases c10 : p.op = 21
  · rw [if_pos c10, if_pos c10, if_pos c10]
    rw [← List.append_nil (uI p.sl), rNum_uI h.sl, toN h.sl]
  rw [if_neg c10, if_neg c10, if_neg c10]
  by_cases c11 : p.op = 23
  · rw [if_pos c11, if_pos c11, if_pos c11]
    have e9 : 9 = (p.cnt.drop 1).length := by rw [List.length_drop, hc]
    have := rIdsN_enc (p.cnt.drop 1) [] fun x hx' => h.cnt x (List.mem_of_mem_drop hx')
    rw [List.append_nil, ← e9] at this
    rw [this]
  rw [if_neg c11, if_neg c11, if_neg c11]
  by_cases c12 : p.op = 24
  · rw [if_pos c12, if_pos c12, if_pos c12]
    rw [List.append_assoc, rNum_uI h.at', rNum_uI h.pos, ← List.append_nil (uI p.ah), rNum_uI h.ah, toN h.at', toN h.pos, toN h.ah]
  · exfalso
    have : ¬ (p.op = 2 ∨ p.op = 3 ∨ p.op = 4 ∨ p.op = 5 ∨ p.op = 7 ∨ p.op = 8) := fun q => c3 ((hd _).2 q)
    omega
/-- the reply of an engine is read back -/
theorem decR_eR (h : RpN p) (hx : RpX p) (hc : p.cnt.length = 10) : decR (eR p) = (nrm p, true) := by
  have hcode := h.code
  have hcx := hx.code
  unfold decR eR nrm
  by_cases c0 : p.code = 0
  · rw [if_pos c0, if_pos c0]
    have e1 : rOct ([0, p.op] ++ eB p, false) = (0, ([p.op] ++ eB p, false)) := rfl
    have e2 : rOct ([p.op] ++ eB p, false) = (p.op, (eB p, false)) := rfl
    rw [e1]
    simp only
    rw [e2]
    rw [if_neg (by decide), if_pos trivial, decRB_eB h hx c0 hc]
    rfl
  · rw [if_neg c0, if_neg c0]
    have e1 : rOct ([p.code], false) = (p.code, ([], false)) := rfl
    rw [e1]
    simp only
    rw [if_neg (by omega), if_neg c0]
    rfl
theorem ite_p {α : Type} {P : α → Prop} {c : Prop} [Decidable c] {a b : α} (h1 : P a) (h2 : P b) : P (if c then a else b) := by split <;> assumption
theorem eR_nrm (hx : RpX p) : eR (nrm p) = eR p := by
  have hd : ∀ k : Int, k ∈ dst ↔ k = 2 ∨ k = 3 ∨ k = 4 ∨ k = 5 ∨ k = 7 ∨ k = 8 := fun k => by unfold dst; simp
  unfold nrm
  by_cases c0 : p.code = 0
  · rw [if_pos c0]
    have ho := hx.op c0
    have hn1 : (nrmB p).code = 0 := by
      unfold nrmB
      repeat' first | rfl | refine ite_p (P := fun q : Rp => q.code = 0) ?_ ?_
    have hn2 : (nrmB p).op = p.op := by
      unfold nrmB
      repeat' first | rfl | refine ite_p (P := fun q : Rp => q.op = p.op) ?_ ?_
    have hn : (nrmB p).code = 0 ∧ (nrmB p).op = p.op := ⟨hn1, hn2⟩
    have hb : eB (nrmB p) = eB p := by
      unfold eB
      rw [hn.2]
      unfold nrmB
      by_cases c1 : p.op = 1 ∨ p.op = 22
      · simp only [if_pos c1]
      simp only [if_neg c1]
      by_cases c2 : p.op = 6
      · simp only [if_pos c2]
      simp only [if_neg c2]
      by_cases c3 : p.op ∈ dst
      · simp only [if_pos c3, if_pos ((hd _).1 c3)]
      simp only [if_neg c3, if_neg (fun q => c3 ((hd _).2 q))]
      by_cases c4 : p.op = 9
      · simp only [if_pos c4]
      simp only [if_neg c4]
      by_cases c5 : p.op = 16
      · simp only [if_pos c5]; rfl
      simp only [if_neg c5]
      by_cases c6 : p.op = 17
      · simp only [if_pos c6]
      simp only [if_neg c6]
      by_cases c7 : p.op = 18
      · simp only [if_pos c7]
      simp only [if_neg c7]
      by_cases c8 : p.op = 19
      · simp only [if_pos c8]
      simp only [if_neg c8]
      by_cases c9 : p.op = 20
      · simp only [if_pos c9]
      simp only [if_neg c9]
      by_cases c10 : p.op = 21
      · simp only [if_pos c10]
      simp only [if_neg c10]
      by_cases c11 : p.op = 23
      · simp only [if_pos c11]; rfl
      simp only [if_neg c11]
      by_cases c12 : p.op = 24
      · simp only [if_pos c12]
      simp only [if_neg c12]
    unfold eR
    rw [if_pos hn.1, if_pos c0, hn.2, hb]
  · rw [if_neg c0]
    unfold eR
    rw [if_neg (show ¬ ({ rp0 with code := p.code } : Rp).code = 0 from c0), if_neg c0]
end
end Go.Proofs.Qxb6500896aGreatDoor
