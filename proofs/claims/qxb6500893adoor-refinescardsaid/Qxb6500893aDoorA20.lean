import Derived.Test.Qxb6500893aDoorA19
namespace Go.Proofs.Qxb6500893aDoor
open Go.Sh Go.RowKit
set_option linter.unusedVariables false
set_option linter.unusedSimpArgs false

section
variable {s : Ws} {F : Nat → List Nat} {c : Call} {kk nb N : Nat}
theorem FailLe.mono {M : Nat} (h : FailLe N s) (hm : N ≤ M) : FailLe M s := fun sh hsh => Nat.le_trans (h sh hsh) hm
theorem real_fail (ok : s.T.Ok) (hc : CallOk s c) (h8 : c.kind ≠ 8) (h : PInv s.A.ws s.T s.L F) (hN : N ≤ 18446744073709551614) (hf : FailLe N s) : FailLe (N + 1) (realF kk nb s c) := by
  have hf' := hf.mono (M := N + 1) (by omega)
  have hfb := hf.mono hN
  have hk : c.kind = 0 ∨ c.kind = 1 ∨ c.kind = 2 ∨ c.kind = 3 ∨ c.kind = 4 ∨ c.kind = 5 ∨ c.kind = 6 ∨ c.kind = 7 ∨ 9 ≤ c.kind := by omega
  -- one pool changes in its own words
  have one : ∀ {A' : Ar} {L' : List Lb} {i : Nat} (hi : i < s.T.ps.length), (∀ a, (a < s.T.ps[i].ctl ∨ s.T.ps[i].fin ≤ a) → A'.ws a = s.A.ws a) → A'.ws (s.T.ps[i].ctl + 4) ≤ N + 1 → FailLe (N + 1) ⟨A', s.T, L'⟩ := by
    intro A' L' i hi hout h4 sh hsh
    have hsh : sh ∈ s.T.ps := hsh
    obtain ⟨k, hk, rfl⟩ := List.getElem_of_mem hsh
    by_cases e : k = i
    · subst e; exact h4
    · have o2 := (ok.sh _ (List.getElem_mem hk)).1
      have := fst_ge o2
      have := o2.fin
      have ap := apart ok hi hk (Ne.symm e)
      show A'.ws (s.T.ps[k].ctl + 4) ≤ N + 1
      rw [hout _ (by omega)]
      exact hf' _ (List.getElem_mem hk)
  rcases hk with k | k | k | k | k | k | k | k | k
  · rcases step0 (s := s) (kk := kk) (nb := nb) k with ⟨_, _, e⟩ | ⟨_, _, e⟩
    · rw [e]; exact hf'
    · rw [e]; intro sh hsh; cases hsh
  · rcases step1 (s := s) (kk := kk) (nb := nb) ok k with ⟨_, _, e⟩ | ⟨h0, hok, _, e⟩
    · rw [e]; exact hf'
    · rw [e]
      obtain ⟨_, hout, _, _, e4, _⟩ := fmt_ok (A := A0 s.A) hok
      intro sh hsh
      rcases List.mem_append.1 hsh with q | q
      · have o := ok.sh _ q
        have := fst_ge o.1
        have := o.1.fin
        show (fmtF (A0 s.A) (crSh s.T c.a.toNat c.b.toNat)).ws (sh.ctl + 4) ≤ N + 1
        rw [hout _ (.inl (by show _ < s.T.next; omega))]
        exact hf' _ q
      · rw [List.mem_singleton] at q
        subst q
        show (fmtF (A0 s.A) (crSh s.T c.a.toNat c.b.toNat)).ws _ ≤ N + 1
        rw [e4]; omega
  · rcases step2 (s := s) (kk := kk) (nb := nb) ok k h hfb with ⟨_, _, e⟩ | ⟨i, hi, _, hF, A', ew, _, _, e⟩ | ⟨i, hi, j, F', _, hF, _, e⟩
    · rw [e]; exact hf'
    · rw [e]
      have o := (ok.sh _ (List.getElem_mem hi)).1
      have := fst_ge o
      have := o.fin
      refine one hi (A' := A0 A') (fun a ha => ?_) ?_
      · show A'.ws a = _; rw [ew]; exact updO (by omega)
      · show A'.ws _ ≤ _; rw [ew, updN]; have := hf _ (List.getElem_mem hi); omega
    · rw [e]
      have o := (ok.sh _ (List.getElem_mem hi)).1
      have := fst_ge o
      have := o.fin
      have hP := h.pool i hi
      rw [hF] at hP
      obtain ⟨_, _, _, hout, h4, _⟩ := PoolOk.alloc (A := A0 s.A) o hP
      exact one hi (fun a ha => hout a (by omega)) (by show (allocF (A0 s.A) s.T.ps[i]).2.2.ws _ ≤ _; rw [h4]; exact hf' _ (List.getElem_mem hi))
  · rcases step3 (s := s) (kk := kk) (nb := nb) ok k h with ⟨_, _, e⟩ | ⟨i, hi, _, _, A', ew, _, _, e⟩ | ⟨i, hi, j, A1, _, hj, hn, _, ew, _, _, e⟩
    · rw [e]; exact hf'
    · rw [e]; intro sh hsh; show A'.ws _ ≤ _; rw [ew]; exact hf' sh hsh
    · rw [e]
      have o := (ok.sh _ (List.getElem_mem hi)).1
      have bj := bk_in o (t := 0) hj (by have := o.bw1; omega)
      have := fst_ge o
      have hP := h.pool i hi
      rw [← ew] at hP
      obtain ⟨_, _, hout, h4, _⟩ := PoolOk.free (A := A1) o hP hj hn
      exact one hi (fun a ha => by have := hout a (by omega) (by omega); rw [ew] at this; exact this) (by show (freeF A1 s.T.ps[i] _).2.ws _ ≤ _; rw [h4, ew]; exact hf' _ (List.getElem_mem hi))
  · rcases step4 (s := s) (kk := kk) (nb := nb) ok k h with ⟨_, _, e⟩ | ⟨i, hi, _, _, A', ew, _, _, e⟩ | ⟨i, hi, j, A1, _, hj, hn, _, ew, _, _, e⟩
    · rw [e]; exact hf'
    · rw [e]; intro sh hsh; show A'.ws _ ≤ _; rw [ew]; exact hf' sh hsh
    · rw [e]
      have o := (ok.sh _ (List.getElem_mem hi)).1
      have bj := bk_in o (t := 0) hj (by have := o.bw1; omega)
      have := fst_ge o
      have hP := h.pool i hi
      rw [← ew] at hP
      obtain ⟨_, _, hout, h4, _⟩ := PoolOk.free (A := A1) o hP hj hn
      exact one hi (fun a ha => by have := hout a (by omega) (by omega); rw [ew] at this; exact this) (by show (freeF A1 s.T.ps[i] _).2.ws _ ≤ _; rw [h4, ew]; exact hf' _ (List.getElem_mem hi))
  · rcases step5 (s := s) (kk := kk) (nb := nb) ok k with ⟨_, _, e⟩ | ⟨i, hi, _, _, e⟩ <;> (rw [e]; exact hf')
  · rcases step6 (s := s) (kk := kk) (nb := nb) k h with ⟨_, _, e⟩ | ⟨i, hi, _, A', ew, _, _, e⟩
    · rw [e]; exact hf'
    · rw [e]; intro sh hsh; show A'.ws _ ≤ _; rw [ew]; exact hf' sh hsh
  · rcases step7 (s := s) (kk := kk) (nb := nb) k hc with ⟨_, _, e⟩ | ⟨p, hp, t, ht, A', ew, _, _, e⟩
    · rw [e]; exact hf'
    · rw [e]
      intro sh hsh
      have hsh : sh ∈ s.T.ps := hsh
      obtain ⟨q, hq, rfl⟩ := List.getElem_of_mem hsh
      show A'.ws (s.T.ps[q].ctl + 4) ≤ _
      have hne : s.T.ps[q].ctl + 4 ≠ s.L[p].at_ + t := by
        obtain ⟨i, hi, j, x1, x2, x3, x4, x5⟩ := h.live _ (List.getElem_mem hp)
        have o1 := (ok.sh _ (List.getElem_mem hi)).1
        have o2 := (ok.sh _ (List.getElem_mem hq)).1
        have hl : s.L[p].ws.length = s.T.ps[i].bw := by rw [x5, cutW_len]
        have b := bk_in o1 x2 (show t < s.T.ps[i].bw by omega)
        have := fst_ge o1
        have := fst_ge o2
        have := o2.fin
        by_cases e' : i = q
        · subst e'; omega
        · have := apart ok hi hq e'; omega
      rw [ew, updO hne]
      exact hf' _ (List.getElem_mem hq)
  · obtain ⟨_, e⟩ := step9 (s := s) (kk := kk) (nb := nb) k
    rw [e]; exact hf'
end
section
variable {W w w' : World} {v : Value} {ops : List Op} {K : Value → World → Prop} {s : Ws} {m : Wm} {a : Nat}
def tkS (s : Ws) (k : Nat) : Ws := { s with A := tk s.A k }
theorem LSt.load (h : LSt W w m s) (ha : a < 4096) (hK : ∀ w', LSt W w' m (tkS s 1) → Kp (fun b => b = m.ab) w w' → K (.tuple #[U64 (s.A.ws a), I 0]) w') : cl Tryd.prog 23 #[P m.ab 0, U32 a] K w := by
  refine load_ok h.wd.arn (by omega) fun w1 a1 hk1 => ?_
  rw [if_pos ha, if_pos ha]
  have sA : StA w w1 m.ab m.M m.M := stA_ab hk1
  have wd1 := h.wd.setA a1 sA
  exact hK w1 (h.st wd1 ((StW.refl w m s.L).setA sA)) hk1
theorem tkS_add (s : Ws) (a b : Nat) : tkS (tkS s a) b = tkS s (a + b) := by unfold tkS tk; simp only [tick_add]
end
end Go.Proofs.Qxb6500893aDoor
