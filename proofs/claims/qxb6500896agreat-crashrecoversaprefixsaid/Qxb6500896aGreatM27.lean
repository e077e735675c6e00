import Derived.Test.Qxb6500896aGreatM26
import Derived.Test.Qxb6500896aGreatN27
namespace Go.Proofs.Qxb6500896aGreat
open Go.Sh Go.RowKit
set_option linter.unusedVariables false
set_option linter.unusedSimpArgs false

/-- how the model answers what it read -/
def mdO (o : Option Rq) (σ : Sg) : Sg × List Int := match o with
  | none => (σ, [1])
  | some q => if q.op ≤ 9 then ((chM q σ).1, eR (chM q σ).2) else (σ, quM q σ)
theorem mdO_c {q : Rq} {σ : Sg} (h : q.op ≤ 9) : mdO (some q) σ = ((chM q σ).1, eR (chM q σ).2) := by unfold mdO; simp only; rw [if_pos h]
theorem mdO_q {q : Rq} {σ : Sg} (h : ¬ q.op ≤ 9) : mdO (some q) σ = (σ, quM q σ) := by unfold mdO; simp only; rw [if_neg h]
theorem valid_0 {now : Int} {q : Rq} (h1 : q.op ≠ 1) (h2 : q.op ≠ 22) (h3 : q.op ≠ 5) (h4 : q.op ≠ 6) (h5 : q.op ≠ 21) (h6 : q.op ≠ 18) (h7 : q.op ≠ 19) : valid park now q = 0 := by
  unfold valid
  rw [if_neg (by omega), if_neg (by omega), if_neg (by omega), if_neg (by omega), if_neg (by omega)]
theorem ch_2 {q : Rq} {σ : Sg} (h : q.op = 2) : chM q σ = mvS q σ (tConfirm park σ.now q.id σ.rs) := by
  unfold chM
  rw [if_pos (valid_0 (by omega) (by omega) (by omega) (by omega) (by omega) (by omega) (by omega))]
  unfold apS
  rw [if_neg (by omega), if_pos h]
theorem ch_3 {q : Rq} {σ : Sg} (h : q.op = 3) : chM q σ = mvS q σ (tCancel q.id σ.rs) := by
  unfold chM
  rw [if_pos (valid_0 (by omega) (by omega) (by omega) (by omega) (by omega) (by omega) (by omega))]
  unfold apS
  rw [if_neg (by omega), if_neg (by omega), if_pos h]
theorem ch_4 {q : Rq} {σ : Sg} (h : q.op = 4) : chM q σ = mvS q σ (tArrive σ.now q.id 2 σ.rs) := by
  unfold chM
  rw [if_pos (valid_0 (by omega) (by omega) (by omega) (by omega) (by omega) (by omega) (by omega))]
  unfold apS
  rw [if_neg (by omega), if_neg (by omega), if_neg (by omega), if_pos h]
theorem ch_8 {q : Rq} {σ : Sg} (h : q.op = 8) : chM q σ = mvS q σ (tArrive σ.now q.id 8 σ.rs) := by
  unfold chM
  rw [if_pos (valid_0 (by omega) (by omega) (by omega) (by omega) (by omega) (by omega) (by omega))]
  unfold apS
  rw [if_neg (by omega), if_neg (by omega), if_neg (by omega), if_neg (by omega), if_neg (by omega), if_neg (by omega), if_neg (by omega), if_pos h]
theorem ch_9 {q : Rq} {σ : Sg} (h : q.op = 9) : chM q σ = (tkS park σ, tkR park q σ) := by
  unfold chM
  rw [if_pos (valid_0 (by omega) (by omega) (by omega) (by omega) (by omega) (by omega) (by omega))]
  unfold apS
  rw [if_neg (by omega), if_neg (by omega), if_neg (by omega), if_neg (by omega), if_neg (by omega), if_neg (by omega), if_neg (by omega), if_neg (by omega), if_pos h]
theorem numsF_N : ∀ {f : Nat} {bs l : List Int}, numsF f bs = some l → (∀ x ∈ l, N63 x) ∧ l.length ≤ bs.length
  | f, [], l, h => by
    have : l = [] := by cases f <;> (exact (Option.some.inj h).symm)
    subst this
    exact ⟨(fun x hx => by cases hx), Nat.le_refl _⟩
  | 0, b :: bs, l, h => by cases h
  | f + 1, b :: bs, l, h => by
    rw [numsF] at h
    split at h
    · rename_i q
      obtain ⟨y, hy, e⟩ := Option.map_eq_some_iff.1 h
      obtain ⟨i1, i2⟩ := numsF_N hy
      have hs := scan_b q
      have hv := scan_v (b :: bs)
      rw [← e]
      refine ⟨fun x hx => ?_, ?_⟩
      · rcases List.mem_cons.1 hx with r | r
        · rw [r]; exact ⟨by omega, by omega⟩
        · exact i1 x r
      · rw [List.length_drop] at i2
        simp only [List.length_cons] at i2 hs ⊢
        omega
    · cases h
section
variable {w : World} {b k : Int} {t8 : Value} {X : Value → (Value → World → Prop) → World → Prop} {Y : Value → World → Prop}
theorem st_no (h : b ≠ k) (hY : Y (.bool false) w) : boI .eql (U8 b) (U8 k) (fun t29 w => gd t29 true (fun K w => K t8 w) (fun t31 w => gd t29 true (X t31) (fun t32 w => pk t29 t32 (.bool false) Y w) w) w) w := by
  have e : (b == k) = false := by rw [beq_eq_false_iff_ne]; exact h
  simp only [e_eql, e, e_gdft, e_pkf]
  exact hY
theorem st_yes (h : b = k) (hX : X t8 Y w) : boI .eql (U8 b) (U8 k) (fun t29 w => gd t29 true (fun K w => K t8 w) (fun t31 w => gd t29 true (X t31) (fun t32 w => pk t29 t32 (.bool false) Y w) w) w) w := by
  have e : (b == k) = true := by rw [h]; exact beq_self_eq_true _
  simp only [e_eql, e, e_gdtt, e_pkt]
  exact hX
end
section
variable {O G F : Nat → Prop} {w w' w0 : World} {m ab : Nat} {av t0 t6 t8 : Value} {K : Value → World → Prop} {σ : Sg} {b : Int} {fl : List Int}
/-- a model at a request whose numbers are read -/
structure Hc (O G : Nat → Prop) (w0 w : World) (m : Nat) (σ : Sg) (ab : Nat) (av : Value) (fl : List Int) : Prop where
  h : Mo O G w0 m σ.ms
  k : Kp Emp w0 w
  sl : Sl iC 1 w 3 (some ab) av fl
  hr : ∀ x ∈ fl, N63 x
  hl : fl.length ≤ 1000000000000
  g : SGd park σ
theorem Hc.ar (h : Hc O G w0 w m σ ab av fl) : Ar iC 1 (fun b => b = ab) w av fl := h.sl.ar iC_len (by have := h.hl; omega) fun c e => (Option.some.inj e).symm
theorem Hc.mw (h : Hc O G w0 w m σ ab av fl) : Mw O G w0 O w m σ.ms := (Mw.start h.h).emp h.k
theorem Hc.kp (h : Hc O G w0 w m σ ab av fl) (hk : Kp Emp w w') : Hc O G w0 w' m σ ab av fl := ⟨h.h, h.k.trans hk, h.sl.kp' hk, h.hr, h.hl, h.g⟩
theorem Hc.end_ (h : Hc O G w0 w m σ ab av fl) (hK : MK O G w0 m K σ.ms [1]) : s25_p1 K w := by
  unfold s25_p1
  exact no_ok (by decide) (h.mw.out hK)
/-- the legs of a request -/
theorem Hc.legs {n : Nat} {Y : Value → World → Prop} (h : Hc O G w0 w m σ ab av fl) (hn : n ≤ fl.length) (hs : fl.length ≤ 100000) (hY : ∀ w' v b, Ar lC 2 (fun c => c = b) w' v (prs (fl.drop n)) → w.heap.size ≤ b → b < w'.heap.size → Kp Emp w w' → Y v w') :
    sls 1 av (some (I (n : Nat))) none (fun t _ => cl Tryz.prog 87 #[t] Y w) w := by
  refine h.ar.sub (lo := n) (hi := fl.length) hn (Nat.le_refl _) rfl (fun a c e => rfl) fun v' hA => ?_
  rw [List.take_of_length_le (by rw [List.length_drop]; omega)] at hA
  refine pairs_ok hA (fun b q => by rw [q]; exact h.sl.lt) (by rw [List.length_drop]; omega) fun w2 v2 b2 sl2 hb2 hk2 => ?_
  have hp := prs_len (fl.drop n)
  rw [List.length_drop] at hp
  exact hY w2 v2 b2 (sl2.ar lC_len (by omega) fun c e => (Option.some.inj e).symm) hb2 sl2.lt hk2
theorem hf_1 (hb : b ≠ 1) (h : s25_p56 K (P m 0) (U8 b) av (I (fl.length : Nat)) w) : s25_p58 K (P m 0) (U8 b) av (I (fl.length : Nat)) w := by
  unfold s25_p58
  refine st_no hb ?_
  unfold s25_p57
  simp only [e_iff]
  exact h
theorem hy_1 (hc : Hc O G w0 w m σ ab av fl) (hb : b = 1) (hl : lsted fl 2 = true) (h : s25_p3 K (P m 0) av w) : s25_p58 K (P m 0) (U8 b) av (I (fl.length : Nat)) w := by
  unfold s25_p58
  refine st_yes hb ?_
  refine listed_ok (k := 2) hc.ar hc.hl hc.hr (by decide) ?_
  rw [hl]
  unfold s25_p57
  simp only [e_ift]
  exact h
theorem hn_1 (hc : Hc O G w0 w m σ ab av fl) (hb : b = 1) (hl : lsted fl 2 = false) (h : s25_p56 K (P m 0) (U8 b) av (I (fl.length : Nat)) w) : s25_p58 K (P m 0) (U8 b) av (I (fl.length : Nat)) w := by
  unfold s25_p58
  refine st_yes hb ?_
  refine listed_ok (k := 2) hc.ar hc.hl hc.hr (by decide) ?_
  rw [hl]
  unfold s25_p57
  simp only [e_iff]
  exact h
theorem hf_2 (hb : b ≠ 2) (h : s25_p54 K (P m 0) (U8 b) av (I (fl.length : Nat)) w) : s25_p56 K (P m 0) (U8 b) av (I (fl.length : Nat)) w := by
  unfold s25_p56
  refine st_no hb ?_
  unfold s25_p55
  simp only [e_iff]
  exact h
theorem hy_2 (hb : b = 2) (hl : fl.length = 1) (h : s25_p4 K (P m 0) av w) : s25_p56 K (P m 0) (U8 b) av (I (fl.length : Nat)) w := by
  unfold s25_p56
  refine st_yes hb ?_
  simp only [e_eql, show ((fl.length : Nat) : Int) = 1 by omega, show (((1 : Int) == 1)) = true from rfl]
  unfold s25_p55
  simp only [e_ift]
  exact h
theorem hn_2 (hb : b = 2) (hl : fl.length ≠ 1) (h : s25_p54 K (P m 0) (U8 b) av (I (fl.length : Nat)) w) : s25_p56 K (P m 0) (U8 b) av (I (fl.length : Nat)) w := by
  unfold s25_p56
  refine st_yes hb ?_
  have e : (((fl.length : Nat) : Int) == 1) = false := by rw [beq_eq_false_iff_ne]; omega
  simp only [e_eql, e]
  unfold s25_p55
  simp only [e_iff]
  exact h
theorem hf_3 (hb : b ≠ 3) (h : s25_p52 K (P m 0) (U8 b) av (I (fl.length : Nat)) w) : s25_p54 K (P m 0) (U8 b) av (I (fl.length : Nat)) w := by
  unfold s25_p54
  refine st_no hb ?_
  unfold s25_p53
  simp only [e_iff]
  exact h
theorem hy_3 (hb : b = 3) (hl : fl.length = 1) (h : s25_p5 K (P m 0) av w) : s25_p54 K (P m 0) (U8 b) av (I (fl.length : Nat)) w := by
  unfold s25_p54
  refine st_yes hb ?_
  simp only [e_eql, show ((fl.length : Nat) : Int) = 1 by omega, show (((1 : Int) == 1)) = true from rfl]
  unfold s25_p53
  simp only [e_ift]
  exact h
theorem hn_3 (hb : b = 3) (hl : fl.length ≠ 1) (h : s25_p52 K (P m 0) (U8 b) av (I (fl.length : Nat)) w) : s25_p54 K (P m 0) (U8 b) av (I (fl.length : Nat)) w := by
  unfold s25_p54
  refine st_yes hb ?_
  have e : (((fl.length : Nat) : Int) == 1) = false := by rw [beq_eq_false_iff_ne]; omega
  simp only [e_eql, e]
  unfold s25_p53
  simp only [e_iff]
  exact h
theorem hf_4 (hb : b ≠ 4) (h : s25_p50 K (P m 0) (U8 b) av (I (fl.length : Nat)) w) : s25_p52 K (P m 0) (U8 b) av (I (fl.length : Nat)) w := by
  unfold s25_p52
  refine st_no hb ?_
  unfold s25_p51
  simp only [e_iff]
  exact h
theorem hy_4 (hb : b = 4) (hl : fl.length = 1) (h : s25_p6 K (P m 0) (U8 b) av w) : s25_p52 K (P m 0) (U8 b) av (I (fl.length : Nat)) w := by
  unfold s25_p52
  refine st_yes hb ?_
  simp only [e_eql, show ((fl.length : Nat) : Int) = 1 by omega, show (((1 : Int) == 1)) = true from rfl]
  unfold s25_p51
  simp only [e_ift]
  exact h
theorem hn_4 (hb : b = 4) (hl : fl.length ≠ 1) (h : s25_p50 K (P m 0) (U8 b) av (I (fl.length : Nat)) w) : s25_p52 K (P m 0) (U8 b) av (I (fl.length : Nat)) w := by
  unfold s25_p52
  refine st_yes hb ?_
  have e : (((fl.length : Nat) : Int) == 1) = false := by rw [beq_eq_false_iff_ne]; omega
  simp only [e_eql, e]
  unfold s25_p51
  simp only [e_iff]
  exact h
theorem hf_5 (hb : b ≠ 5) (h : s25_p48 K (P m 0) (U8 b) av (I (fl.length : Nat)) w) : s25_p50 K (P m 0) (U8 b) av (I (fl.length : Nat)) w := by
  unfold s25_p50
  refine st_no hb ?_
  unfold s25_p49
  simp only [e_iff]
  exact h
theorem hy_5 (hc : Hc O G w0 w m σ ab av fl) (hb : b = 5) (hl : lsted fl 1 = true) (h : s25_p8 K (P m 0) av w) : s25_p50 K (P m 0) (U8 b) av (I (fl.length : Nat)) w := by
  unfold s25_p50
  refine st_yes hb ?_
  refine listed_ok (k := 1) hc.ar hc.hl hc.hr (by decide) ?_
  rw [hl]
  unfold s25_p49
  simp only [e_ift]
  exact h
theorem hn_5 (hc : Hc O G w0 w m σ ab av fl) (hb : b = 5) (hl : lsted fl 1 = false) (h : s25_p48 K (P m 0) (U8 b) av (I (fl.length : Nat)) w) : s25_p50 K (P m 0) (U8 b) av (I (fl.length : Nat)) w := by
  unfold s25_p50
  refine st_yes hb ?_
  refine listed_ok (k := 1) hc.ar hc.hl hc.hr (by decide) ?_
  rw [hl]
  unfold s25_p49
  simp only [e_iff]
  exact h
theorem hf_6 (hb : b ≠ 6) (h : s25_p46 K (P m 0) (U8 b) av (I (fl.length : Nat)) w) : s25_p48 K (P m 0) (U8 b) av (I (fl.length : Nat)) w := by
  unfold s25_p48
  refine st_no hb ?_
  unfold s25_p47
  simp only [e_iff]
  exact h
theorem hy_6 (hb : b = 6) (hl : fl.length = 3) (h : s25_p10 K (P m 0) av w) : s25_p48 K (P m 0) (U8 b) av (I (fl.length : Nat)) w := by
  unfold s25_p48
  refine st_yes hb ?_
  simp only [e_eql, show ((fl.length : Nat) : Int) = 3 by omega, show (((3 : Int) == 3)) = true from rfl]
  unfold s25_p47
  simp only [e_ift]
  exact h
theorem hn_6 (hb : b = 6) (hl : fl.length ≠ 3) (h : s25_p46 K (P m 0) (U8 b) av (I (fl.length : Nat)) w) : s25_p48 K (P m 0) (U8 b) av (I (fl.length : Nat)) w := by
  unfold s25_p48
  refine st_yes hb ?_
  have e : (((fl.length : Nat) : Int) == 3) = false := by rw [beq_eq_false_iff_ne]; omega
  simp only [e_eql, e]
  unfold s25_p47
  simp only [e_iff]
  exact h
theorem hf_7 (hb : b ≠ 7) (h : s25_p44 K (P m 0) (U8 b) av (I (fl.length : Nat)) w) : s25_p46 K (P m 0) (U8 b) av (I (fl.length : Nat)) w := by
  unfold s25_p46
  refine st_no hb ?_
  unfold s25_p45
  simp only [e_iff]
  exact h
theorem hy_7 (hb : b = 7) (hl : fl.length = 1) (h : s25_p11 K (P m 0) av w) : s25_p46 K (P m 0) (U8 b) av (I (fl.length : Nat)) w := by
  unfold s25_p46
  refine st_yes hb ?_
  simp only [e_eql, show ((fl.length : Nat) : Int) = 1 by omega, show (((1 : Int) == 1)) = true from rfl]
  unfold s25_p45
  simp only [e_ift]
  exact h
theorem hn_7 (hb : b = 7) (hl : fl.length ≠ 1) (h : s25_p44 K (P m 0) (U8 b) av (I (fl.length : Nat)) w) : s25_p46 K (P m 0) (U8 b) av (I (fl.length : Nat)) w := by
  unfold s25_p46
  refine st_yes hb ?_
  have e : (((fl.length : Nat) : Int) == 1) = false := by rw [beq_eq_false_iff_ne]; omega
  simp only [e_eql, e]
  unfold s25_p45
  simp only [e_iff]
  exact h
theorem hf_8 (hb : b ≠ 8) (h : s25_p42 K (P m 0) (U8 b) av (I (fl.length : Nat)) w) : s25_p44 K (P m 0) (U8 b) av (I (fl.length : Nat)) w := by
  unfold s25_p44
  refine st_no hb ?_
  unfold s25_p43
  simp only [e_iff]
  exact h
theorem hy_8 (hb : b = 8) (hl : fl.length = 1) (h : s25_p12 K (P m 0) (U8 b) av w) : s25_p44 K (P m 0) (U8 b) av (I (fl.length : Nat)) w := by
  unfold s25_p44
  refine st_yes hb ?_
  simp only [e_eql, show ((fl.length : Nat) : Int) = 1 by omega, show (((1 : Int) == 1)) = true from rfl]
  unfold s25_p43
  simp only [e_ift]
  exact h
theorem hn_8 (hb : b = 8) (hl : fl.length ≠ 1) (h : s25_p42 K (P m 0) (U8 b) av (I (fl.length : Nat)) w) : s25_p44 K (P m 0) (U8 b) av (I (fl.length : Nat)) w := by
  unfold s25_p44
  refine st_yes hb ?_
  have e : (((fl.length : Nat) : Int) == 1) = false := by rw [beq_eq_false_iff_ne]; omega
  simp only [e_eql, e]
  unfold s25_p43
  simp only [e_iff]
  exact h
theorem hf_9 (hb : b ≠ 9) (h : s25_p40 K (P m 0) (U8 b) av (I (fl.length : Nat)) w) : s25_p42 K (P m 0) (U8 b) av (I (fl.length : Nat)) w := by
  unfold s25_p42
  refine st_no hb ?_
  unfold s25_p41
  simp only [e_iff]
  exact h
theorem hy_9 (hb : b = 9) (hl : fl.length = 0) (h : s25_p13 K (P m 0) w) : s25_p42 K (P m 0) (U8 b) av (I (fl.length : Nat)) w := by
  unfold s25_p42
  refine st_yes hb ?_
  simp only [e_eql, show ((fl.length : Nat) : Int) = 0 by omega, show (((0 : Int) == 0)) = true from rfl]
  unfold s25_p41
  simp only [e_ift]
  exact h
theorem hn_9 (hb : b = 9) (hl : fl.length ≠ 0) (h : s25_p40 K (P m 0) (U8 b) av (I (fl.length : Nat)) w) : s25_p42 K (P m 0) (U8 b) av (I (fl.length : Nat)) w := by
  unfold s25_p42
  refine st_yes hb ?_
  have e : (((fl.length : Nat) : Int) == 0) = false := by rw [beq_eq_false_iff_ne]; omega
  simp only [e_eql, e]
  unfold s25_p41
  simp only [e_iff]
  exact h
theorem hf_16 (hb : b ≠ 16) (h : s25_p38 K (P m 0) (U8 b) av (I (fl.length : Nat)) w) : s25_p40 K (P m 0) (U8 b) av (I (fl.length : Nat)) w := by
  unfold s25_p40
  refine st_no hb ?_
  unfold s25_p39
  simp only [e_iff]
  exact h
theorem hy_16 (hb : b = 16) (hl : fl.length = 1) (h : s25_p14 K (P m 0) av w) : s25_p40 K (P m 0) (U8 b) av (I (fl.length : Nat)) w := by
  unfold s25_p40
  refine st_yes hb ?_
  simp only [e_eql, show ((fl.length : Nat) : Int) = 1 by omega, show (((1 : Int) == 1)) = true from rfl]
  unfold s25_p39
  simp only [e_ift]
  exact h
theorem hn_16 (hb : b = 16) (hl : fl.length ≠ 1) (h : s25_p38 K (P m 0) (U8 b) av (I (fl.length : Nat)) w) : s25_p40 K (P m 0) (U8 b) av (I (fl.length : Nat)) w := by
  unfold s25_p40
  refine st_yes hb ?_
  have e : (((fl.length : Nat) : Int) == 1) = false := by rw [beq_eq_false_iff_ne]; omega
  simp only [e_eql, e]
  unfold s25_p39
  simp only [e_iff]
  exact h
theorem hf_17 (hb : b ≠ 17) (h : s25_p36 K (P m 0) (U8 b) av (I (fl.length : Nat)) w) : s25_p38 K (P m 0) (U8 b) av (I (fl.length : Nat)) w := by
  unfold s25_p38
  refine st_no hb ?_
  unfold s25_p37
  simp only [e_iff]
  exact h
theorem hy_17 (hb : b = 17) (hl : fl.length = 2) (h : s25_p16 K (P m 0) av w) : s25_p38 K (P m 0) (U8 b) av (I (fl.length : Nat)) w := by
  unfold s25_p38
  refine st_yes hb ?_
  simp only [e_eql, show ((fl.length : Nat) : Int) = 2 by omega, show (((2 : Int) == 2)) = true from rfl]
  unfold s25_p37
  simp only [e_ift]
  exact h
theorem hn_17 (hb : b = 17) (hl : fl.length ≠ 2) (h : s25_p36 K (P m 0) (U8 b) av (I (fl.length : Nat)) w) : s25_p38 K (P m 0) (U8 b) av (I (fl.length : Nat)) w := by
  unfold s25_p38
  refine st_yes hb ?_
  have e : (((fl.length : Nat) : Int) == 2) = false := by rw [beq_eq_false_iff_ne]; omega
  simp only [e_eql, e]
  unfold s25_p37
  simp only [e_iff]
  exact h
theorem hf_18 (hb : b ≠ 18) (h : s25_p34 K (P m 0) (U8 b) av (I (fl.length : Nat)) w) : s25_p36 K (P m 0) (U8 b) av (I (fl.length : Nat)) w := by
  unfold s25_p36
  refine st_no hb ?_
  unfold s25_p35
  simp only [e_iff]
  exact h
theorem hy_18 (hb : b = 18) (hl : fl.length = 2) (h : s25_p18 K (P m 0) av w) : s25_p36 K (P m 0) (U8 b) av (I (fl.length : Nat)) w := by
  unfold s25_p36
  refine st_yes hb ?_
  simp only [e_eql, show ((fl.length : Nat) : Int) = 2 by omega, show (((2 : Int) == 2)) = true from rfl]
  unfold s25_p35
  simp only [e_ift]
  exact h
theorem hn_18 (hb : b = 18) (hl : fl.length ≠ 2) (h : s25_p34 K (P m 0) (U8 b) av (I (fl.length : Nat)) w) : s25_p36 K (P m 0) (U8 b) av (I (fl.length : Nat)) w := by
  unfold s25_p36
  refine st_yes hb ?_
  have e : (((fl.length : Nat) : Int) == 2) = false := by rw [beq_eq_false_iff_ne]; omega
  simp only [e_eql, e]
  unfold s25_p35
  simp only [e_iff]
  exact h
theorem hf_19 (hb : b ≠ 19) (h : s25_p32 K (P m 0) (U8 b) av (I (fl.length : Nat)) w) : s25_p34 K (P m 0) (U8 b) av (I (fl.length : Nat)) w := by
  unfold s25_p34
  refine st_no hb ?_
  unfold s25_p33
  simp only [e_iff]
  exact h
theorem hy_19 (hb : b = 19) (hl : fl.length = 1) (h : s25_p19 K (P m 0) av w) : s25_p34 K (P m 0) (U8 b) av (I (fl.length : Nat)) w := by
  unfold s25_p34
  refine st_yes hb ?_
  simp only [e_eql, show ((fl.length : Nat) : Int) = 1 by omega, show (((1 : Int) == 1)) = true from rfl]
  unfold s25_p33
  simp only [e_ift]
  exact h
theorem hn_19 (hb : b = 19) (hl : fl.length ≠ 1) (h : s25_p32 K (P m 0) (U8 b) av (I (fl.length : Nat)) w) : s25_p34 K (P m 0) (U8 b) av (I (fl.length : Nat)) w := by
  unfold s25_p34
  refine st_yes hb ?_
  have e : (((fl.length : Nat) : Int) == 1) = false := by rw [beq_eq_false_iff_ne]; omega
  simp only [e_eql, e]
  unfold s25_p33
  simp only [e_iff]
  exact h
theorem hf_20 (hb : b ≠ 20) (h : s25_p30 K (P m 0) (U8 b) av (I (fl.length : Nat)) w) : s25_p32 K (P m 0) (U8 b) av (I (fl.length : Nat)) w := by
  unfold s25_p32
  refine st_no hb ?_
  unfold s25_p31
  simp only [e_iff]
  exact h
theorem hy_20 (hb : b = 20) (hl : fl.length = 0) (h : s25_p21 K (P m 0) (U8 b) w) : s25_p32 K (P m 0) (U8 b) av (I (fl.length : Nat)) w := by
  unfold s25_p32
  refine st_yes hb ?_
  simp only [e_eql, show ((fl.length : Nat) : Int) = 0 by omega, show (((0 : Int) == 0)) = true from rfl]
  unfold s25_p31
  simp only [e_ift]
  exact h
theorem hn_20 (hb : b = 20) (hl : fl.length ≠ 0) (h : s25_p30 K (P m 0) (U8 b) av (I (fl.length : Nat)) w) : s25_p32 K (P m 0) (U8 b) av (I (fl.length : Nat)) w := by
  unfold s25_p32
  refine st_yes hb ?_
  have e : (((fl.length : Nat) : Int) == 0) = false := by rw [beq_eq_false_iff_ne]; omega
  simp only [e_eql, e]
  unfold s25_p31
  simp only [e_iff]
  exact h
theorem hf_21 (hb : b ≠ 21) (h : s25_p28 K (P m 0) (U8 b) av (I (fl.length : Nat)) w) : s25_p30 K (P m 0) (U8 b) av (I (fl.length : Nat)) w := by
  unfold s25_p30
  refine st_no hb ?_
  unfold s25_p29
  simp only [e_iff]
  exact h
theorem hy_21 (hb : b = 21) (hl : fl.length = 4) (h : s25_p23 K (P m 0) av w) : s25_p30 K (P m 0) (U8 b) av (I (fl.length : Nat)) w := by
  unfold s25_p30
  refine st_yes hb ?_
  simp only [e_eql, show ((fl.length : Nat) : Int) = 4 by omega, show (((4 : Int) == 4)) = true from rfl]
  unfold s25_p29
  simp only [e_ift]
  exact h
theorem hn_21 (hb : b = 21) (hl : fl.length ≠ 4) (h : s25_p28 K (P m 0) (U8 b) av (I (fl.length : Nat)) w) : s25_p30 K (P m 0) (U8 b) av (I (fl.length : Nat)) w := by
  unfold s25_p30
  refine st_yes hb ?_
  have e : (((fl.length : Nat) : Int) == 4) = false := by rw [beq_eq_false_iff_ne]; omega
  simp only [e_eql, e]
  unfold s25_p29
  simp only [e_iff]
  exact h
theorem hf_22 (hb : b ≠ 22) (h : s25_p26 K (P m 0) (U8 b) av (I (fl.length : Nat)) w) : s25_p28 K (P m 0) (U8 b) av (I (fl.length : Nat)) w := by
  unfold s25_p28
  refine st_no hb ?_
  unfold s25_p27
  simp only [e_iff]
  exact h
theorem hy_22 (hc : Hc O G w0 w m σ ab av fl) (hb : b = 22) (hl : lsted fl 2 = true) (h : s25_p25 K (P m 0) av w) : s25_p28 K (P m 0) (U8 b) av (I (fl.length : Nat)) w := by
  unfold s25_p28
  refine st_yes hb ?_
  refine listed_ok (k := 2) hc.ar hc.hl hc.hr (by decide) ?_
  rw [hl]
  unfold s25_p27
  simp only [e_ift]
  exact h
theorem hn_22 (hc : Hc O G w0 w m σ ab av fl) (hb : b = 22) (hl : lsted fl 2 = false) (h : s25_p26 K (P m 0) (U8 b) av (I (fl.length : Nat)) w) : s25_p28 K (P m 0) (U8 b) av (I (fl.length : Nat)) w := by
  unfold s25_p28
  refine st_yes hb ?_
  refine listed_ok (k := 2) hc.ar hc.hl hc.hr (by decide) ?_
  rw [hl]
  unfold s25_p27
  simp only [e_iff]
  exact h
theorem hf_23 (h1 : b ≠ 23) (h2 : b ≠ 24) (h : s25_p1 K w) : s25_p26 K (P m 0) (U8 b) av (I (fl.length : Nat)) w := by
  unfold s25_p26
  refine st_no h1 ?_
  simp only [e_iff]
  refine st_no h2 ?_
  simp only [e_iff]
  exact h
theorem hy_23 (hb : b = 23) (hl : fl.length = 0) (h : cl Tryz.prog 102 #[P m 0] K w) : s25_p26 K (P m 0) (U8 b) av (I (fl.length : Nat)) w := by
  unfold s25_p26
  refine st_yes hb ?_
  simp only [e_eql, show ((fl.length : Nat) : Int) = 0 by omega, show (((0 : Int) == 0)) = true from rfl, e_ift]
  exact h
theorem hn_23 (hb : b = 23) (hl : fl.length ≠ 0) (h : s25_p1 K w) : s25_p26 K (P m 0) (U8 b) av (I (fl.length : Nat)) w := by
  unfold s25_p26
  refine st_yes hb ?_
  have e : (((fl.length : Nat) : Int) == 0) = false := by rw [beq_eq_false_iff_ne]; omega
  have e24 : (b == 24) = false := by rw [beq_eq_false_iff_ne]; omega
  simp only [e_eql, e, e_iff, e24, e_gdft, e_pkf]
  exact h
theorem hy_24 (hb : b = 24) (hl : fl.length = 1) (h : ixs 1 av (I 0) (fun t290 w => ld1 t290 (fun t291 w => cl Tryz.prog 103 #[P m 0, t291] K w) w) w) : s25_p26 K (P m 0) (U8 b) av (I (fl.length : Nat)) w := by
  unfold s25_p26
  refine st_no (show b ≠ 23 by omega) ?_
  simp only [e_iff]
  refine st_yes hb ?_
  simp only [e_eql, show ((fl.length : Nat) : Int) = 1 by omega, show (((1 : Int) == 1)) = true from rfl, e_ift]
  exact h
theorem hn_24 (hb : b = 24) (hl : fl.length ≠ 1) (h : s25_p1 K w) : s25_p26 K (P m 0) (U8 b) av (I (fl.length : Nat)) w := by
  unfold s25_p26
  refine st_no (show b ≠ 23 by omega) ?_
  simp only [e_iff]
  refine st_yes hb ?_
  have e : (((fl.length : Nat) : Int) == 1) = false := by rw [beq_eq_false_iff_ne]; omega
  simp only [e_eql, e, e_iff]
  exact h
end
end Go.Proofs.Qxb6500896aGreat
