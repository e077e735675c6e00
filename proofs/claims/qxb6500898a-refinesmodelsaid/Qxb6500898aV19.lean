import Derived.Test.Qxb6500898aV18
namespace Go.Proofs.Qxb6500898a
open Go.Sh Go.RowKit
set_option linter.unusedVariables false
set_option linter.unusedSimpArgs false

/-- append of a slice that lies anywhere -/
theorem appV {α : Type} {F : α → Value} {w : World} {e : TypeId} {ob : Option Nat} {v v2 : Value} {xs ys : List α} {K : Value → World → Prop} {z : Value} {by_ : Nat}
    (hs : ∀ y, scal (F y) = true) (h : Sl (fun x => [F x]) 1 w e ob v xs) (h2 : Vs F w v2 ys)
    (hsz : (xs.length + ys.length) * by_ ≤ 140737488355328) (hlen : xs.length + ys.length < 9223372036854775808)
    (hK : ∀ w' v' ob', Sl (fun x => [F x]) 1 w' e ob' v' (xs ++ ys) → Kp (fun b => ob = some b) w w' → (ob' = ob ∨ ∃ b, ob' = some b ∧ w.heap.size ≤ b) → K v' w') :
    apq e [z] by_ v v2 K w := by
  have hk : ∀ x, ((fun x => [F x]) x).length = 1 := fun _ => rfl
  have hrows : ∀ l : List α, rows (fun x => [F x]) l = l.map F := fun l => by
    induction l with
    | nil => rfl
    | cons a l ih => rw [rows_cons, ih]; rfl
  have hall : (ys.map F).all scal = true := by rw [List.all_eq_true]; intro y hy; rw [List.mem_map] at hy; obtain ⟨x, _, rfl⟩ := hy; exact hs x
  obtain ⟨a2, c2, e2⟩ : ∃ a2 c2, v2 = .slice a2 ys.length c2 := by
    rcases h2 with ⟨rfl, rfl⟩ | ⟨a, cap, rfl, rfl⟩ | ⟨b, o, cap, rfl, _⟩
    · exact ⟨_, _, rfl⟩
    · exact ⟨_, _, rfl⟩
    · exact ⟨_, _, rfl⟩
  have rd2 : ∀ kk : List Value → Prop, kk (ys.map F) → fst' 1 ys.length v2 w kk := fun kk hkk => h2.fst rfl hkk
  subst e2
  cases ob with
  | none =>
    obtain ⟨rfl, rfl⟩ := h
    refine ⟨by simpa using hsz, by simpa using hlen, fun q => ?_, fun q => ?_⟩
    · have hn : ys = [] := by
        have : ys.length = 0 := by simpa using q
        exact List.eq_nil_of_length_eq_zero this
      subst hn
      refine ⟨rfl, ?_⟩
      exact hK w _ none ⟨rfl, rfl⟩ (Kp.refl _ _) (.inl rfl)
    · refine ⟨rfl, ?_⟩
      refine rd2 _ fun c hc => ?_
      refine hK _ _ (some w.heap.size) ⟨c, zrep [z] ((c - (0 + ys.length)) * 1), by simp, by simp at hc ⊢; omega, by simp [zrep], ?_⟩ ?_ (.inr ⟨_, rfl, Nat.le_refl _⟩)
      · have := Row.new (drw w) e (ys.map F ++ zrep [z] ((c - (0 + ys.length)) * 1))
        rw [List.nil_append, hrows]
        exact this
      · exact kp_drw.trans (kp_alloc _)
  | some b =>
    obtain ⟨cap, junk, rfl, h2', h3, h4⟩ := h
    have rd1 : ∀ kk : List Value → Prop, kk (xs.map F) → fst' 1 xs.length (.slice (some ⟨b, 0, none⟩) xs.length cap) w kk := fun kk hkk => by
      refine Vs.fst (f := F) ?_ rfl hkk
      rw [hrows] at h4
      exact vs_row h4 (by omega) (by omega)
    rw [hrows] at h4
    refine ⟨hsz, hlen, fun q => ?_, fun q => ?_⟩
    · refine rd2 _ ?_
      rw [add_mk, Nat.zero_add]
      have hj : ys.length ≤ junk.length := by rw [h3]; omega
      refine stc_r (o := xs.length * 1) (ys.map F) 0 w _ h4 (by rw [List.length_append, List.length_map, List.length_map]; omega) hall fun w2 r2 hb2 hz2 => ?_
      refine hK w2 _ (some b) ⟨cap, junk.drop ys.length, by simp, by simp; omega, ?_, ?_⟩ ?_ (.inl rfl)
      · rw [List.length_drop, h3, List.length_append]; omega
      · have e1 : List.take (xs.length * 1 + 0) (xs.map F ++ junk) = xs.map F := by rw [List.take_append_of_le_length (by rw [List.length_map]; omega), List.take_of_length_le (by rw [List.length_map]; omega)]
        have e2 : List.drop (xs.length * 1 + 0 + (ys.map F).length) (xs.map F ++ junk) = junk.drop ys.length := by
          rw [List.length_map, List.drop_append, List.length_map, List.drop_of_length_le (by rw [List.length_map]; omega), List.nil_append, show xs.length * 1 + 0 + ys.length - xs.length = ys.length by omega]
        rw [e1, e2] at r2
        rw [hrows, List.map_append, List.append_assoc]
        exact r2
      · exact hb2.mono fun x _ (e : x = b) => by rw [e]
    · refine rd1 _ (rd2 _ fun c hc => ?_)
      refine hK _ _ (some w.heap.size) ⟨c, zrep [z] ((c - (xs.length + ys.length)) * 1), by simp, by simp; omega, by simp [zrep], ?_⟩ ?_ (.inr ⟨_, rfl, Nat.le_refl _⟩)
      · have := Row.new (drw w) e (xs.map F ++ (ys.map F ++ zrep [z] ((c - (xs.length + ys.length)) * 1)))
        rw [hrows, List.map_append, List.append_assoc]
        exact this
      · exact kp_drw.trans (kp_alloc _)
/-- a list of whole numbers in memory -/
def n1 (x : Int) : List Value := [I x]
theorem n1_len (x : Int) : (n1 x).length = 1 := rfl
theorem rows_n1 (l : List Int) : rows n1 l = l.map I := by
  induction l with
  | nil => rfl
  | cons a l ih => rw [rows_cons, ih]; rfl
section
variable {W w w' w0 w2 : World} {v d t wv rv dv t0 t1 : Value} {ob wob wob0 : Option Nat} {mb t3 t4 b e m n : Nat} {xs ys zs pr da : List Int} {K : Value → World → Prop} {B1 : List Value → World → Prop} {S S' : Nat → Prop} {L : List Value}
theorem sl_vs (h : Sl n1 1 w e ob v xs) (hl : xs.length ≤ 1000000000000000) : Vs I w v xs := by
  cases ob with
  | none => obtain ⟨rfl, rfl⟩ := h; exact .inl ⟨rfl, rfl⟩
  | some b =>
    obtain ⟨cap, junk, rfl, h2, h3, h4⟩ := h
    rw [rows_n1] at h4
    exact vs_row h4 h2 (by omega)
theorem vs_dropN {f : Int → Value} (h : Vs f w v xs) {ii : Int} (hii : ii = (n : Int)) (hn : n ≤ xs.length) (h0 : 0 < xs.length) (hK : ∀ v', (∀ w2, Vs f w2 v xs → Vs f w2 v' (xs.drop n)) → K v' w2) : sls 1 v (some (.int .i64 ii)) none K w2 := by
  subst hii
  rcases h with ⟨rfl, rfl⟩ | ⟨a, cap, rfl, rfl⟩ | ⟨b, o, cap, rfl, h1, h2, hc⟩
  · simp at h0
  · simp at h0
  · refine ⟨⟨by omega, by omega, by omega⟩, ?_⟩
    have e0 : ((n : Int)).toNat = n := by omega
    simp only [e0]
    have hlen : (xs.drop n).length = xs.length - n := List.length_drop
    refine hK _ fun w2 h2' => ?_
    by_cases hz : xs.length - n = 0
    · have hd : xs.drop n = [] := List.eq_nil_of_length_eq_zero (by omega)
      rw [hd]
      refine .inr (.inl ?_)
      have hl0 : ((xs.length : Int)).toNat - n = 0 := by omega
      by_cases hcn : cap = n
      · rw [if_pos hcn]; exact ⟨⟨b, o, none⟩, cap - n, by rw [hl0], rfl⟩
      · rw [if_neg hcn]; exact ⟨(⟨b, o, none⟩ : Addr).add (n * 1), cap - n, by rw [hl0]; rfl, rfl⟩
    · rw [if_neg (by omega), Option.map_some, add_mk, Nat.mul_one]
      rcases h2' with ⟨q, _⟩ | ⟨a', c', q1, q2⟩ | ⟨b', o', c', q1, _, _, q4⟩
      · cases q
      · rw [q2] at hz; simp at hz
      · cases q1
        refine .inr (.inr ⟨b, o + n, cap - n, by rw [hlen]; congr 1, by omega, by omega, ?_⟩)
        intro j hj
        rw [List.length_map, hlen] at hj
        rw [Nat.add_assoc, q4 (n + j) (by rw [List.length_map]; omega), List.getElem?_map, List.getElem?_map, List.getElem?_drop]
theorem vs_takeN {f : Int → Value} (h : Vs f w v xs) {ii : Int} (hii : ii = (n : Int)) (hn : n ≤ xs.length) (h0 : 0 < xs.length) (hK : ∀ v', (∀ w2, Vs f w2 v xs → Vs f w2 v' (xs.take n)) → K v' w2) : sls 1 v none (some (.int .i64 ii)) K w2 := by
  subst hii
  rcases h with ⟨rfl, rfl⟩ | ⟨a, cap, rfl, rfl⟩ | ⟨b, o, cap, rfl, h1, h2, hc⟩
  · simp at h0
  · simp at h0
  · refine ⟨⟨by omega, by omega, by omega⟩, ?_⟩
    have e0 : ((n : Int)).toNat = n := by omega
    have e1 : (if cap = ((0 : Nat) : Int).toNat then (some (⟨b, o, none⟩ : Addr)) else (some (⟨b, o, none⟩ : Addr)).map (·.add (((0 : Nat) : Int).toNat * 1))) = some ⟨b, o, none⟩ := by
      split
      · rfl
      · show some ((⟨b, o, none⟩ : Addr).add (0 * 1)) = _; rw [add_mk]; simp
    rw [e1]
    refine hK _ fun w2 h2' => ?_
    have hlen : (xs.take n).length = n := by rw [List.length_take]; omega
    rcases h2' with ⟨q, _⟩ | ⟨a', c', q1, q2⟩ | ⟨b', o', c', q1, _, _, q4⟩
    · cases q
    · rw [q2] at h0; simp at h0
    · cases q1
      refine .inr (.inr ⟨b, o, cap, ?_, by omega, by omega, ?_⟩)
      · rw [hlen, e0]; rfl
      · intro j hj
        rw [List.length_map, hlen] at hj
        rw [q4 j (by rw [List.length_map]; omega), List.getElem?_map, List.getElem?_map, List.getElem?_take_of_lt (by omega)]
/-- one number more -/
theorem app_n1 {a : Int} (h : Sl n1 1 w 3 ob v xs) (hl : xs.length ≤ 10000000000000) (hK : ∀ w' t' ob', Sl n1 1 w' 3 ob' t' (xs ++ [a]) → Kp (fun b => ob = some b) w w' → (ob' = ob ∨ ∃ b, ob' = some b ∧ w.heap.size ≤ b) → K t' w') : bsq 3 [(.int .i64 0)] 1 [(some (0, 1), I a)] (fun t w => apq 3 [(.int .i64 0)] 8 v t K w) w :=
  h.app n1_len rfl a rfl (by omega) (by omega) rfl hK
/-- the rule of a new list of numbers -/
abbrev NewN (w : World) (xs : List Int) (K : Value → World → Prop) : Prop := ∀ w' t' b, Sl n1 1 w' 3 (some b) t' xs → w.heap.size ≤ b → Kp (fun _ => False) w w' → K t' w'
theorem left1_ok (h : Sl n1 1 w 3 (some b) v xs) (hl : xs.length ≤ 10000000000000) (h0 : 0 < xs.length) (hK : NewN w (xs.drop 1 ++ xs.take 1) K) : cl Try.prog 100 #[v] K w := by
  have hv := sl_vs h (by omega)
  apply c100
  unfold s100_p1
  refine hv.ln ?_
  have e0 : (((xs.length : Nat) : Int) == 0) = false := by rw [beq_eq_false_iff_ne]; omega
  simp only [e0, e_fd, e_nck, e_pkt, e_pkf, e_gdtt, e_gdtf, e_gdft, e_gdff, e_ift, e_iff, e_not, e_ln, e_lnT, e_cp, e_cvi, e_ex20, e_ex21, e_ex30, e_ex31, e_ex32, e_add, e_sub, e_mul, e_quo, e_rem, e_and, e_or, e_xor, e_shl, e_shr, e_eql, e_neq, e_lss, e_leq, e_gtr, e_geq, e_beq, e_bne, e_peq1, e_peq2, e_pne1, e_pne2, e_zeq1, e_zeq2, e_zne1, e_zne2, e_feq1, e_fne1, e_feq2, e_fne2, e_seq, e_sne, e_ta1, e_ta2, Nat.zero_add, Nat.add_zero, Bool.not_true, Bool.not_false]
  refine Sl.empty (f := n1) (k := 1) fun w1 s1 hk1 hz1 => ?_
  refine vs_dropN (hv.kp' hk1) (n := 1) rfl (by omega) h0 fun v1 hv1 => ?_
  refine appV (F := I) (fun _ => rfl) s1 (hv1 w1 (hv.kp' hk1)) (by rw [List.length_nil, List.length_drop]; omega) (by rw [List.length_nil, List.length_drop]; omega) fun w2 t2 ob2 s2 hk2 ho2 => ?_
  have k2 : Kp (fun _ => False) w w2 := hk1.then hk2 (fun k hk (q : some _ = some k) => by cases q; omega)
  refine (hv.kp' k2).ix (i := 0) h0 fun b' q' hld => hld _ ?_
  refine app_n1 s2 (by rw [List.nil_append, List.length_drop]; omega) fun w3 t3 ob3 s3 hk3 ho3 => ?_
  have hob2 : ∃ c, ob2 = some c ∧ w.heap.size ≤ c := by
    rcases ho2 with q | ⟨c, q, hc⟩
    · exact ⟨_, q, Nat.le_refl _⟩
    · exact ⟨c, q, by omega⟩
  obtain ⟨c, rfl, hc⟩ := hob2
  have k3 : Kp (fun _ => False) w w3 := k2.then hk3 (fun k hk (q : some _ = some k) => by cases q; omega)
  have sz := k2.size
  have e1 : [] ++ xs.drop 1 ++ [xs[0]] = xs.drop 1 ++ xs.take 1 := by
    rw [List.nil_append, List.take_one, List.head?_eq_getElem?, List.getElem?_eq_getElem h0]; rfl
  rw [e1] at s3
  rcases ho3 with rfl | ⟨c3, rfl, hc3⟩
  · exact hK w3 t3 c s3 hc k3
  · exact hK w3 t3 c3 s3 (by omega) k3
theorem right1_ok (h : Sl n1 1 w 3 (some b) v xs) (hl : xs.length ≤ 10000000000000) (h0 : 0 < xs.length) (hK : NewN w (xs.drop (xs.length - 1) ++ xs.take (xs.length - 1)) K) : cl Try.prog 102 #[v] K w := by
  have hv := sl_vs h (by omega)
  apply c102
  unfold s102_p1
  refine hv.ln ?_
  have e0 : (((xs.length : Nat) : Int) == 0) = false := by rw [beq_eq_false_iff_ne]; omega
  simp only [e0, e_fd, e_nck, e_pkt, e_pkf, e_gdtt, e_gdtf, e_gdft, e_gdff, e_ift, e_iff, e_not, e_ln, e_lnT, e_cp, e_cvi, e_ex20, e_ex21, e_ex30, e_ex31, e_ex32, e_add, e_sub, e_mul, e_quo, e_rem, e_and, e_or, e_xor, e_shl, e_shr, e_eql, e_neq, e_lss, e_leq, e_gtr, e_geq, e_beq, e_bne, e_peq1, e_peq2, e_pne1, e_pne2, e_zeq1, e_zeq2, e_zne1, e_zne2, e_feq1, e_fne1, e_feq2, e_fne2, e_seq, e_sne, e_ta1, e_ta2, Nat.zero_add, Nat.add_zero, Bool.not_true, Bool.not_false]
  refine hv.ln ?_
  try simp only [e_fd, e_nck, e_pkt, e_pkf, e_gdtt, e_gdtf, e_gdft, e_gdff, e_ift, e_iff, e_not, e_ln, e_lnT, e_cp, e_cvi, e_ex20, e_ex21, e_ex30, e_ex31, e_ex32, e_add, e_sub, e_mul, e_quo, e_rem, e_and, e_or, e_xor, e_shl, e_shr, e_eql, e_neq, e_lss, e_leq, e_gtr, e_geq, e_beq, e_bne, e_peq1, e_peq2, e_pne1, e_pne2, e_zeq1, e_zeq2, e_zne1, e_zne2, e_feq1, e_fne1, e_feq2, e_fne2, e_seq, e_sne, e_ta1, e_ta2, Nat.zero_add, Nat.add_zero, Bool.not_true, Bool.not_false]
  rw [wrap64_id (by omega) (by omega), show ((xs.length : Nat) : Int) - 1 = ((xs.length - 1 : Nat) : Int) by omega]
  refine hv.ix (i := xs.length - 1) (by omega) fun b' q' hld => hld _ ?_
  refine bsq_r (l := [I xs[xs.length - 1]]) rfl fun w1 r1 hk1 hz1 => ?_
  have s1 : Sl n1 1 w1 3 (some w.heap.size) (sv w.heap.size 0 1 1) [xs[xs.length - 1]] := ⟨1, [], rfl, Nat.le_refl _, rfl, r1⟩
  refine (hv.kp' hk1).ln ?_
  try simp only [e_fd, e_nck, e_pkt, e_pkf, e_gdtt, e_gdtf, e_gdft, e_gdff, e_ift, e_iff, e_not, e_ln, e_lnT, e_cp, e_cvi, e_ex20, e_ex21, e_ex30, e_ex31, e_ex32, e_add, e_sub, e_mul, e_quo, e_rem, e_and, e_or, e_xor, e_shl, e_shr, e_eql, e_neq, e_lss, e_leq, e_gtr, e_geq, e_beq, e_bne, e_peq1, e_peq2, e_pne1, e_pne2, e_zeq1, e_zeq2, e_zne1, e_zne2, e_feq1, e_fne1, e_feq2, e_fne2, e_seq, e_sne, e_ta1, e_ta2, Nat.zero_add, Nat.add_zero, Bool.not_true, Bool.not_false]
  rw [wrap64_id (by omega) (by omega), show ((xs.length : Nat) : Int) - 1 = ((xs.length - 1 : Nat) : Int) by omega]
  refine vs_takeN (hv.kp' hk1) (n := xs.length - 1) rfl (by omega) h0 fun v1 hv1 => ?_
  refine appV (F := I) (fun _ => rfl) s1 (hv1 w1 (hv.kp' hk1)) (by rw [List.length_singleton, List.length_take]; omega) (by rw [List.length_singleton, List.length_take]; omega) fun w2 t2 ob2 s2 hk2 ho2 => ?_
  have k2 : Kp (fun _ => False) w w2 := hk1.then hk2 (fun k hk (q : some _ = some k) => by cases q; omega)
  have e1 : [xs[xs.length - 1]] ++ xs.take (xs.length - 1) = xs.drop (xs.length - 1) ++ xs.take (xs.length - 1) := by
    rw [List.drop_eq_getElem_cons (by omega), List.drop_of_length_le (by omega)]
  rw [e1] at s2
  rcases ho2 with rfl | ⟨c3, rfl, hc3⟩
  · exact hK w2 t2 _ s2 (Nat.le_refl _) k2
  · exact hK w2 t2 c3 s2 (by omega) k2
end
end Go.Proofs.Qxb6500898a
