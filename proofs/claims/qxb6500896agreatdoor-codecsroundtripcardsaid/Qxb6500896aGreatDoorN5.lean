import Derived.Test.Qxb6500896aGreatDoorN4
namespace Go.Proofs.Qxb6500896aGreatDoor
open Go.Sh Go.RowKit
set_option linter.unusedVariables false
set_option linter.unusedSimpArgs false

/-! what is read is what was written -/
theorem scanG_inv : ∀ (f i a : Nat) (bs : List Int), By bs → (scanG f i a bs).2.2 = 0 → ∃ x : Nat, (scanG f i a bs).1 = a + x * 128 ^ i ∧ (0 < i → 0 < x) ∧ bs = uvF f x ++ bs.drop ((scanG f i a bs).2.1 - i)
  | 0, i, a, bs, _, h => by simp [scanG] at h
  | f + 1, i, a, [], _, h => by simp [scanG] at h
  | f + 1, i, a, b :: bs, hb, h => by
    have b0 := hb b List.mem_cons_self
    rw [scanG] at h ⊢
    by_cases h1 : b < 128
    · rw [if_pos h1] at h ⊢
      by_cases h2 : b = 0 ∧ 0 < i
      · rw [if_pos h2] at h; simp at h
      · rw [if_neg h2]
        refine ⟨b.toNat, ?_, fun q => by omega, ?_⟩
        · show a + b.toNat % 128 * 128 ^ i = _
          rw [Nat.mod_eq_of_lt (by omega)]
        · show b :: bs = uvF (f + 1) b.toNat ++ (b :: bs).drop (i + 1 - i)
          rw [uvF_small (by omega), show i + 1 - i = 1 by omega]
          show b :: bs = ((b.toNat : Nat) : Int) :: bs
          rw [show ((b.toNat : Nat) : Int) = b by omega]
    · rw [if_neg h1] at h ⊢
      obtain ⟨x, e1, e2, e3⟩ := scanG_inv f (i + 1) _ bs (fun y hy => hb y (List.mem_cons_of_mem _ hy)) h
      have hi := scanG_i f (i + 1) _ bs h
      have hx := e2 (by omega)
      generalize hq : scanG f (i + 1) (a + b.toNat % 128 * 128 ^ i) bs = q at *
      refine ⟨b.toNat % 128 + 128 * x, ?_, fun _ => by omega, ?_⟩
      · rw [e1, Nat.add_assoc, Nat.add_mul, Nat.pow_succ]
        congr 2
        rw [Nat.mul_comm 128 x, Nat.mul_assoc, Nat.mul_comm 128]
      · rw [uvF_big (by omega), show (b.toNat % 128 + 128 * x) / 128 = x by omega, show (b.toNat % 128 + 128 * x) % 128 = b.toNat % 128 by omega, show ((b.toNat % 128 + 128 : Nat) : Int) = b by omega, show q.2.1 - i = q.2.1 - (i + 1) + 1 by omega, List.drop_succ_cons, List.cons_append, ← e3]
theorem scan_inv {bs : List Int} (hb : By bs) (h : (scan bs).2.2 = 0) : bs = uv (scan bs).1 ++ bs.drop (scan bs).2.1 := by
  obtain ⟨x, e1, _, e3⟩ := scanG_inv 9 0 0 bs hb h
  have e : (scan bs).1 = x := by unfold scan; rw [e1]; simp
  rw [e]
  exact e3
theorem rNum_inv {s : RS} (hb : By s.1) (h : (rNum s).2.2 = false) : s.1 = uI ((rNum s).1 : Nat) ++ (rNum s).2.1 ∧ s.2 = false := by
  rw [rNum_eq] at h ⊢
  unfold uI
  split
  · rename_i q
    rw [if_pos q] at h
    refine ⟨?_, h⟩
    simp only [Int.toNat_natCast]
    exact scan_inv hb q
  · rename_i q; rw [if_neg q] at h; cases h
theorem rUp_inv {m : Nat} {s : RS} (hb : By s.1) (h : (rUp m s).2.2 = false) : s.1 = uI ((rUp m s).1 : Nat) ++ (rUp m s).2.1 ∧ s.2 = false := by
  unfold rUp at h ⊢
  split
  · rename_i q; rw [if_pos q] at h; cases h
  · rename_i q; rw [if_neg q] at h; exact rNum_inv hb h
theorem rLegsN_inv : ∀ (n : Nat) (s : RS), By s.1 → (rLegsN n s).2.2 = false → s.1 = encLs (rLegsN n s).1 ++ (rLegsN n s).2.1 ∧ s.2 = false
  | 0, s, hb, h => ⟨by simp [rLegsN, encLs], h⟩
  | n + 1, s, hb, h => by
    have h' : (rLegsN n (rNum (rNum s).2).2).2.2 = false := h
    obtain ⟨e1, f1⟩ := rLegsN_inv n _ (rNum_By (rNum_By hb)) h'
    obtain ⟨e2, f2⟩ := rNum_inv (rNum_By hb) f1
    obtain ⟨e3, f3⟩ := rNum_inv hb f2
    refine ⟨?_, f3⟩
    have e4 : encLs (rLegsN (n + 1) s).1 = uI ((rNum s).1 : Nat) ++ uI ((rNum (rNum s).2).1 : Nat) ++ encLs (rLegsN n (rNum (rNum s).2).2).1 := by
      rw [rLegsN]; simp [encLs]
    rw [e4, List.append_assoc, List.append_assoc]
    show s.1 = uI ((rNum s).1 : Nat) ++ (uI ((rNum (rNum s).2).1 : Nat) ++ (encLs (rLegsN n (rNum (rNum s).2).2).1 ++ (rLegsN n (rNum (rNum s).2).2).2.1))
    rw [← e1, ← e2, ← e3]
theorem rLegs_inv {m : Nat} {s : RS} (hb : By s.1) (h : (rLegs m s).2.2 = false) : s.1 = encLegs (rLegs m s).1 ++ (rLegs m s).2.1 ∧ s.2 = false := by
  unfold rLegs at h ⊢
  split
  · rename_i q
    rw [if_pos q] at h
    obtain ⟨e1, f1⟩ := rUp_inv hb h
    refine ⟨?_, f1⟩
    have q' : (rUp m s).1 = 0 := by
      rcases q with q | q
      · rw [h] at q; cases q
      · exact q
    rw [q'] at e1
    exact e1
  · rename_i q
    rw [if_neg q] at h
    obtain ⟨e1, f1⟩ := rLegsN_inv _ _ (rUp_By hb) h
    obtain ⟨e2, f2⟩ := rUp_inv hb f1
    refine ⟨?_, f2⟩
    unfold encLegs
    rw [(rLegsN_N _ _).2, List.append_assoc, ← e1]
    exact e2
theorem rDone_iff {s : RS} : rDone s = true ↔ s.2 = false ∧ s.1 = [] := by
  unfold rDone
  cases s.2 <;> simp
theorem decB_op (b : Int) (s : RS) : (decB b s).1.op = b := by
  unfold decB
  repeat' split
  all_goals rfl
section
theorem decB_inv {b : Int} {s : RS} (hb : By s.1) (h : rDone (decB b s).2 = true) : s.1 = encB (decB b s).1 ∧ s.2 = false := by
  obtain ⟨h1, h2⟩ := rDone_iff.1 h
  have N := fun {s : RS} => @rNum_inv s
  unfold decB at h1 h2 ⊢
  unfold encB
  by_cases c1 : b = 1 ∨ b = 22
  · simp only [if_pos c1] at h1 h2 ⊢
    obtain ⟨e1, f1⟩ := rLegs_inv (rNum_By (rNum_By hb)) h1
    obtain ⟨e2, f2⟩ := N (rNum_By hb) f1
    obtain ⟨e3, f3⟩ := N hb f2
    rw [h2, List.append_nil] at e1
    refine ⟨?_, f3⟩
    rw [List.append_assoc, ← e1, ← e2, ← e3]
  · simp only [if_neg c1] at h1 h2 ⊢
    by_cases c2 : b = 5
    · simp only [if_pos c2] at h1 h2 ⊢
      obtain ⟨e1, f1⟩ := rLegs_inv (rNum_By hb) h1
      obtain ⟨e3, f3⟩ := N hb f1
      rw [h2, List.append_nil] at e1
      simp only [if_neg c1]
      refine ⟨?_, f3⟩
      rw [← e1, ← e3]
    · simp only [if_neg c2] at h1 h2 ⊢
      by_cases c3 : b = 6
      · simp only [if_pos c3] at h1 h2 ⊢
        obtain ⟨e1, f1⟩ := N (rNum_By (rNum_By hb)) h1
        obtain ⟨e2, f2⟩ := N (rNum_By hb) f1
        obtain ⟨e3, f3⟩ := N hb f2
        rw [h2, List.append_nil] at e1
        simp only [if_neg c1, if_neg c2]
        refine ⟨?_, f3⟩
        rw [List.append_assoc, ← e1, ← e2, ← e3]
      · simp only [if_neg c3] at h1 h2 ⊢
        by_cases c4 : b ∈ dIds
        · simp only [if_pos c4] at h1 h2 ⊢
          obtain ⟨e3, f3⟩ := N hb h1
          rw [h2, List.append_nil] at e3
          simp only [if_neg c1, if_neg c2, if_neg c3]
          exact ⟨e3, f3⟩
        · simp only [if_neg c4] at h1 h2 ⊢
          by_cases c5 : b = 17
          · simp only [if_pos c5] at h1 h2 ⊢
            obtain ⟨e2, f2⟩ := N (rNum_By hb) h1
            obtain ⟨e3, f3⟩ := N hb f2
            rw [h2, List.append_nil] at e2
            simp only [if_neg c1, if_neg c2, if_neg c3, if_neg c4]
            refine ⟨?_, f3⟩
            rw [← e2, ← e3]
          · simp only [if_neg c5] at h1 h2 ⊢
            by_cases c6 : b = 18
            · simp only [if_pos c6] at h1 h2 ⊢
              obtain ⟨e2, f2⟩ := N (rNum_By hb) h1
              obtain ⟨e3, f3⟩ := N hb f2
              rw [h2, List.append_nil] at e2
              simp only [if_neg c1, if_neg c2, if_neg c3, if_neg c4, if_neg c5]
              refine ⟨?_, f3⟩
              rw [← e2, ← e3]
            · simp only [if_neg c6] at h1 h2 ⊢
              by_cases c7 : b = 19
              · simp only [if_pos c7] at h1 h2 ⊢
                obtain ⟨e3, f3⟩ := N hb h1
                rw [h2, List.append_nil] at e3
                simp only [if_neg c1, if_neg c2, if_neg c3, if_neg c4, if_neg c5, if_neg c6]
                exact ⟨e3, f3⟩
              · simp only [if_neg c7] at h1 h2 ⊢
                by_cases c8 : b = 21
                · simp only [if_pos c8] at h1 h2 ⊢
                  obtain ⟨e0, f0⟩ := N (rNum_By (rNum_By (rNum_By hb))) h1
                  obtain ⟨e1, f1⟩ := N (rNum_By (rNum_By hb)) f0
                  obtain ⟨e2, f2⟩ := N (rNum_By hb) f1
                  obtain ⟨e3, f3⟩ := N hb f2
                  rw [h2, List.append_nil] at e0
                  simp only [if_neg c1, if_neg c2, if_neg c3, if_neg c4, if_neg c5, if_neg c6, if_neg c7]
                  refine ⟨?_, f3⟩
                  rw [List.append_assoc, List.append_assoc, ← e0, ← e1, ← e2, ← e3]
                · simp only [if_neg c8] at h1 h2 ⊢
                  by_cases c9 : b = 9 ∨ b = 20 ∨ b = 23
                  · simp only [if_pos c9] at h1 h2 ⊢
                    simp only [if_neg c1, if_neg c2, if_neg c3, if_neg c4, if_neg c5, if_neg c6, if_neg c7, if_neg c8]
                    exact ⟨h2, h1⟩
                  · simp only [if_neg c9] at h1; cases h1
end
/-- bytes that are a request are the bytes of that request -/
theorem enc_dec {bs : List Int} (hb : By bs) (h : (dec bs).2 = 0) : enc (dec bs).1 = bs := by
  unfold dec decE at h ⊢
  split
  · rename_i q
    cases bs with
    | nil =>
      exfalso
      have e : (rOct (([] : List Int), false)).1 = 0 := rfl
      have e2 : (rOct (([] : List Int), false)).2 = ([], true) := rfl
      rw [e, e2] at q
      have := (decB_inv (b := 0) (s := ([], true)) By.nil q).2
      cases this
    | cons b bs =>
      have e : (rOct (b :: bs, false)).1 = b := rfl
      have e2 : (rOct (b :: bs, false)).2 = (bs, false) := rfl
      rw [e, e2] at q ⊢
      have := (decB_inv (s := (bs, false)) (fun y hy => hb y (List.mem_cons_of_mem _ hy)) q).1
      unfold enc
      rw [decB_op]
      show b :: encB (decB b (bs, false)).1 = b :: bs
      rw [← this]
  · rename_i q; rw [if_neg q] at h; cases h
/-- and they are read again as that request -/
theorem dec_enc {bs : List Int} (hb : By bs) (h : (dec bs).2 = 0) : dec (enc (dec bs).1) = ((dec bs).1, 0) := by
  rw [enc_dec hb h]
  exact Prod.ext rfl h
/-- an entry is read back -/
theorem par_ent {seq : Int} {bs : List Int} (hs : N63 seq) (hb : By bs) (h : (dec bs).2 = 0) : par (ent seq (dec bs).1) = (seq.toNat, (dec bs).1, true) := by
  unfold par ent
  rw [rNum_uI hs]
  simp only [Bool.false_eq_true, if_false, dec_enc hb h]
  rfl
end Go.Proofs.Qxb6500896aGreatDoor
