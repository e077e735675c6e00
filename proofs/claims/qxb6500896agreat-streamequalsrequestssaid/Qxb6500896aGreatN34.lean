import Derived.Test.Qxb6500896aGreatN33
namespace Go.Proofs.Qxb6500896aGreat
open Go.Sh Go.RowKit
set_option linter.unusedVariables false
set_option linter.unusedSimpArgs false

/-! ### a reply is short -/
def Sm (p : Rp) : Prop := p.iss.length ≤ 26 ∧ p.recs.length ≤ 26 ∧ p.wt.length ≤ 26
theorem Sm.rf {c : Int} : Sm (Go.Proofs.Qxb6500896aGreat.rf c) := ⟨by show 0 ≤ 26; decide, by show 0 ≤ 26; decide, by show 0 ≤ 26; decide⟩
theorem eR_sm {p : Rp} (h : RpN p) (hc : p.cnt.length = 10) (hm : Sm p) : (eR p).length ≤ 10000 := by
  have b1 := uI_len
  have b2 := encIss_len p.iss
  have b3 := encRs_len (rs := p.recs) fun r hr => (h.recs r hr).ll
  have b4 := encIds_len p.wt
  have b5 := encIds_len (p.cnt.drop 1)
  have b6 := hm.1
  have b7 := hm.2.1
  have b8 := hm.2.2
  have b9 : (p.cnt.drop 1).length ≤ 10 := by rw [List.length_drop]; omega
  have b10 : (encRec (p.recs.head?.getD zRec)).length ≤ 207 := by
    apply encRec_len
    cases hp : p.recs with
    | nil => decide
    | cons r rs => exact (h.recs r (by rw [hp]; exact List.mem_cons_self)).ll
  have c1 := b1 p.id
  have c2 := b1 p.ex
  have c3 := b1 p.pos
  have c4 := b1 p.st
  have c5 := b1 p.now
  have c6 := b1 (p.iss.length : Nat)
  have c7 := b1 p.exd
  have c8 := b1 p.ns
  have c9 := b1 p.lp
  have c10 := b1 p.nx
  have c11 := b1 (p.recs.length : Nat)
  have c12 := b1 p.oc
  have c13 := b1 p.e0
  have c14 := b1 p.e1
  have c15 := b1 p.e2
  have c16 := b1 p.fr
  have c17 := b1 (p.wt.length : Nat)
  have c18 := b1 p.la
  have c19 := b1 p.gr
  have c20 := b1 p.sl
  have c21 := b1 p.at'
  have c22 := b1 p.ah
  have hB : (eB p).length ≤ 9990 := by
    unfold eB
    by_cases c : p.op = 1 ∨ p.op = 22; · rw [if_pos c, List.length_append]; omega
    rw [if_neg c]; clear c
    by_cases c : p.op = 6; · rw [if_pos c, List.length_append]; omega
    rw [if_neg c]; clear c
    by_cases c : p.op = 2 ∨ p.op = 3 ∨ p.op = 4 ∨ p.op = 5 ∨ p.op = 7 ∨ p.op = 8; · rw [if_pos c]; omega
    rw [if_neg c]; clear c
    by_cases c : p.op = 9; · rw [if_pos c]; simp only [List.length_append]; omega
    rw [if_neg c]; clear c
    by_cases c : p.op = 16; · rw [if_pos c]; omega
    rw [if_neg c]; clear c
    by_cases c : p.op = 17; · rw [if_pos c]; simp only [List.length_append]; omega
    rw [if_neg c]; clear c
    by_cases c : p.op = 18; · rw [if_pos c]; simp only [List.length_append]; omega
    rw [if_neg c]; clear c
    by_cases c : p.op = 19; · rw [if_pos c]; simp only [List.length_append]; omega
    rw [if_neg c]; clear c
    by_cases c : p.op = 20; · rw [if_pos c]; simp only [List.length_append]; omega
    rw [if_neg c]; clear c
    by_cases c : p.op = 21; · rw [if_pos c]; omega
    rw [if_neg c]; clear c
    by_cases c : p.op = 23; · rw [if_pos c]; omega
    rw [if_neg c]; clear c
    by_cases c : p.op = 24; · rw [if_pos c]; simp only [List.length_append]; omega
    rw [if_neg c]
    decide
  unfold eR
  split
  · simp only [List.length_append, List.length_cons, List.length_nil]; omega
  · simp
section
variable {q : Rq} {σ : Sg} {bs : List Int}
theorem qR_sm (g : SGd park σ) (hv : valid park σ.now q = 0) : Sm (qR park q σ) := by
  have hlen : ((σ.rs.length : Nat) : Int) ≤ 26 := g.len
  have z : ∀ {p : Rp}, p.iss = [] → p.recs = [] → p.wt = [] → Sm p := fun h1 h2 h3 => ⟨by rw [h1]; decide, by rw [h2]; decide, by rw [h3]; decide⟩
  unfold qR
  by_cases c1 : q.op = 16
  · rw [if_pos c1]
    unfold qGet
    split
    · exact ⟨by show 0 ≤ 26; decide, by show 1 ≤ 26; decide, by show 0 ≤ 26; decide⟩
    · exact Sm.rf
  rw [if_neg c1]
  by_cases c2 : q.op = 17
  · rw [if_pos c2]
    unfold qList
    refine ⟨by show 0 ≤ 26; decide, ?_, by show 0 ≤ 26; decide⟩
    simp only [List.length_take, List.length_drop]; omega
  rw [if_neg c2]
  by_cases c3 : q.op = 18
  · rw [if_pos c3]; exact z rfl rfl rfl
  rw [if_neg c3]
  by_cases c4 : q.op = 19
  · rw [if_pos c4]
    have v1 := valid_line hv c4
    obtain ⟨a, ha⟩ : ∃ a : Nat, q.at' = a := ⟨q.at'.toNat, by omega⟩
    have hal : a < σ.ls.length := by have := g.li.len; omega
    unfold qLine
    rw [ha, lnOf_at hal]
    have hw : waits σ.rs ≤ σ.rs.length := List.countP_le_length
    have hl := g.li.wt g.ids
    have := lens_le (List.getElem_mem hal)
    refine ⟨by show 0 ≤ 26; decide, by show 0 ≤ 26; decide, ?_⟩
    simp only
    omega
  rw [if_neg c4]
  by_cases c5 : q.op = 20
  · rw [if_pos c5]; exact z rfl rfl rfl
  rw [if_neg c5]
  by_cases c6 : q.op = 21
  · rw [if_pos c6]
    unfold qFind
    split
    · exact Sm.rf
    · split
      · exact z rfl rfl rfl
      · exact Sm.rf
  rw [if_neg c6]
  by_cases c7 : q.op = 22
  · rw [if_pos c7]
    unfold qQuo
    split
    · exact z rfl rfl rfl
    · exact Sm.rf
  rw [if_neg c7]
  by_cases c8 : q.op = 23
  · rw [if_pos c8]; exact z rfl rfl rfl
  rw [if_neg c8]
  by_cases c9 : q.op = 24
  · rw [if_pos c9]
    unfold qPlace
    split
    · split
      · split
        · exact z rfl rfl rfl
        · exact Sm.rf
      · exact Sm.rf
    · exact Sm.rf
  · rw [if_neg c9]; exact Sm.rf
theorem apS_sm (g : SGd park σ) : Sm (apS park q σ).2 := by
  have hlen : ((σ.rs.length : Nat) : Int) ≤ 26 := g.len
  have z : ∀ {p : Rp}, p.iss = [] → p.recs = [] → p.wt = [] → Sm p := fun h1 h2 h3 => ⟨by rw [h1]; decide, by rw [h2]; decide, by rw [h3]; decide⟩
  have mv : ∀ a b c, Sm (mvR a b c) := fun a b c => z (mvR_p a b c).1 (mvR_p a b c).2.1 (mvR_p a b c).2.2.1
  have h1 : Sm (hoR park q σ) := by unfold hoR; split <;> exact z rfl rfl rfl
  have h2 : ∀ j, Sm (joR q j) := fun j => by unfold joR; split <;> exact z rfl rfl rfl
  have h3 : Sm (tkR park q σ) := by
    unfold tkR
    split
    · exact Sm.rf
    · have is := serve_is park_cv g
      have hw : waits σ.rs ≤ σ.rs.length := List.countP_le_length
      have := is.l
      refine ⟨?_, by show 0 ≤ 26; decide, by show 0 ≤ 26; decide⟩
      simp only
      omega
  unfold apS
  repeat' split
  all_goals first | exact h1 | exact h2 _ | exact h3 | exact mv _ _ _ | exact Sm.rf
theorem mdS_len (g : SGd park σ) : (mdS bs σ).2.length ≤ 10000 := by
  unfold mdS
  cases hm : mRead bs with
  | none => show 1 ≤ 10000; decide
  | some q =>
    have hd := mRead_some hm
    have hN := dec_x (bs := bs) (by rw [hd])
    rw [hd] at hN
    replace hN : XprN q := hN
    have hop := hN.op
    by_cases h9 : q.op ≤ 9
    · rw [mdO_c h9]
      unfold chM
      split
      · rename_i hv
        exact eR_sm (rpn_ap park_cv (by decide) g hv ⟨by omega, h9⟩) (apS_cnt park q σ) (apS_sm g)
      · exact eR_sm (RpN.rf valid_c.b) rfl Sm.rf
    · rw [mdO_q h9]
      unfold quM
      split
      · rename_i hv
        exact eR_sm (qR_rpn park_cv (by decide) g hN hv ⟨by omega, by omega⟩) (qR_cnt park q σ) (qR_sm g hv)
      · show 1 ≤ 10000; decide
end
theorem Rn.len : ∀ {B : List (List Int)} {s s1 : Ms} {o : List Int}, Rn B s o s1 → o.length ≤ 10009 * B.length
  | [], s, s1, o, ⟨h, _⟩ => by rw [h]; simp
  | b :: l, s, s1, o, ⟨σ, g, e, o', e2, h1⟩ => by
    have := Rn.len h1
    have h2 := mdS_len (bs := b) g
    have h3 := uI_len (((mdS b σ).2.length : Nat) : Int)
    rw [e2]
    simp only [List.length_append, List.length_cons]
    omega
/-- replies, each in its frame -/
def fR : List (List Int) → List Int
  | [] => []
  | o :: l => uI ((o.length : Nat) : Int) ++ o ++ fR l
theorem fR_app : ∀ {l : List (List Int)} {x : List Int}, fR (l ++ [x]) = fR l ++ (uI ((x.length : Nat) : Int) ++ x)
  | [], x => by simp [fR]
  | o :: l, x => by
    show uI ((o.length : Nat) : Int) ++ o ++ fR (l ++ [x]) = uI ((o.length : Nat) : Int) ++ o ++ fR l ++ _
    rw [fR_app]
    simp only [List.append_assoc]
/-- a batch is a run of the model -/
theorem bat_rn {bss : List (List Int)} : ∀ {σ : Sg} {J : Jr}, RgI park σ J → Jlm 48 72 1200 J → (∀ bs ∈ bss, By bs) → σ.seq + ((bss.length : Nat) : Int) ≤ 1000000000000 → Rn bss σ.ms (fR ((stbL park bss σ J).2.2.map eR)) (stbL park bss σ J).1.ms := by
  induction bss with
  | nil => intro σ J h hl hB hs; exact ⟨rfl, rfl⟩
  | cons b l ih =>
    intro σ J h hl hB hs
    rw [List.length_cons] at hs
    have hby := hB b (List.mem_cons_self ..)
    obtain ⟨ea, em⟩ := stb_md0 h hl hby (by omega)
    have hq := stbS_q park b σ J
    have := ih (h.stb park_cv park_mb hby (by omega)) (hl.stb park_cv park_mb (by decide) h) (fun bs hb => hB bs (List.mem_cons_of_mem _ hb)) (by omega)
    rw [em] at this
    refine ⟨σ, h.g, rfl, _, ?_, this⟩
    rw [← ea]
    rfl
theorem nb_by {b : List Int} (h : By b) : By (nb b) := by
  unfold nb
  split
  · exact By.nil
  · exact h
end Go.Proofs.Qxb6500896aGreat
