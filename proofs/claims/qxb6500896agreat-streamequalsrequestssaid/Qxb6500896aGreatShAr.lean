/-
  Slices that are only read, items of k cells anywhere; sets of blocks.
-/
import Derived.Test.Qxb6500896aGreatShApp2
import Derived.Test.Qxb6500896aGreatShLeaf
namespace Go.Sh
open Go.RowKit
set_option linter.unusedVariables false
set_option linter.unusedSimpArgs false

/-- the blocks that are new between two worlds -/
def Nb (w w' : World) (b : Nat) : Prop := w.heap.size ≤ b ∧ b < w'.heap.size
/-- a set of blocks and the new ones -/
def Fr (F : Nat → Prop) (w w' : World) (b : Nat) : Prop := F b ∨ Nb w w' b
section
variable {F G S : Nat → Prop} {w w' w1 w2 w3 : World} {b : Nat}
theorem Fr.old (h : F b) : Fr F w w' b := Or.inl h
theorem Fr.new (h1 : w.heap.size ≤ b) (h2 : b < w'.heap.size) : Fr F w w' b := Or.inr ⟨h1, h2⟩
theorem Fr.comp (h12 : w1.heap.size ≤ w2.heap.size) (h23 : w2.heap.size ≤ w3.heap.size) (h : Fr (Fr F w1 w2) w2 w3 b) : Fr F w1 w3 b := by
  rcases h with (h | ⟨h1, h2⟩) | ⟨h1, h2⟩
  · exact .inl h
  · exact .inr ⟨h1, by omega⟩
  · exact .inr ⟨by omega, h2⟩
theorem Fr.wide (h : Fr F w1 w2 b) (h0 : w.heap.size ≤ w1.heap.size) (h23 : w2.heap.size ≤ w3.heap.size) : Fr F w w3 b := by
  rcases h with h | ⟨h1, h2⟩
  · exact .inl h
  · exact .inr ⟨by omega, by omega⟩
theorem Fr.below (h : Fr F w1 w2 b) (hb : b < w1.heap.size) : F b := by
  rcases h with h | ⟨h1, h2⟩
  · exact h
  · omega
theorem Kp.comp (h1 : Kp F w1 w2) (h2 : Kp (Fr F w1 w2) w2 w3) : Kp F w1 w3 := h1.then h2 fun k hk q => q.below hk
theorem Nb.no (h : Nb w w' b) (hb : b < w.heap.size) : False := by have := h.1; omega
theorem Kp.nb (h1 : Kp (fun _ => False) w1 w2) (h2 : Kp (Nb w1 w2) w2 w3) : Kp (fun _ => False) w1 w3 := h1.then h2 fun k hk q => q.no hk
end

/-- a loop that counts up to n -/
theorem loop_n {F : (List Value → World → Prop) → List Value → World → Prop} {l : List Value} {w : World} (n : Nat) (Inv : Nat → List Value → World → Prop) (h0 : Inv 0 l w)
    (step : ∀ i l w, i < n → Inv i l w → ∀ B : List Value → World → Prop, (∀ l' w', Inv (i + 1) l' w' → B l' w') → F B l w)
    (last : ∀ l w, Inv n l w → ∀ B : List Value → World → Prop, F B l w) : LoopL F l w := by
  refine ⟨fun m l w => ∃ i, i ≤ n ∧ m = n - i ∧ Inv i l w, n, ⟨0, by omega, by omega, h0⟩, ?_⟩
  rintro m l w ⟨i, hi, rfl, hI⟩
  by_cases hlt : i < n
  · exact step i l w hlt hI _ fun l' w' h' => ⟨n - (i + 1), by omega, i + 1, by omega, rfl, h'⟩
  · obtain rfl : i = n := by omega
    exact last l w hI _

/-- the items of a slice, read whole -/
def Rds {α : Type} (f : α → List Value) (k : Nat) (w : World) (v : Value) (xs : List α) : Prop :=
  (∃ a c, v = .slice a xs.length c) ∧ ∀ kk : List Value → Prop, kk (rows f xs) → fst' k xs.length v w kk
/-- a slice that is only read -/
def Ar {α : Type} (f : α → List Value) (k : Nat) (F : Nat → Prop) (w : World) (v : Value) (xs : List α) : Prop :=
  xs.length ≤ 140737488355328 ∧ ((∃ a cap, v = .slice a 0 cap ∧ xs = []) ∨
    ∃ b o cap, v = .slice (some ⟨b, o, none⟩) xs.length cap ∧ xs.length ≤ cap ∧ F b ∧ 0 < xs.length ∧ ∀ i (h : i < xs.length), Cells w b (o + i * k) (f xs[i]))
section
variable {α : Type} {f : α → List Value} {k : Nat} {F G S : Nat → Prop} {w w' : World} {v v2 : Value} {xs ys : List α} {K : Value → World → Prop} {e : TypeId} {ob : Option Nat}
theorem Ar.len (h : Ar f k F w v xs) : xs.length ≤ 140737488355328 := h.1
theorem Ar.form (h : Ar f k F w v xs) : ∃ a cap, v = .slice a xs.length cap := by
  rcases h.2 with ⟨a, cap, rfl, rfl⟩ | ⟨b, o, cap, rfl, _⟩
  · exact ⟨_, _, rfl⟩
  · exact ⟨_, _, rfl⟩
theorem Ar.scal (h : Ar f k F w v xs) : Go.Sh.scal v = true := by
  obtain ⟨a, cap, rfl⟩ := h.form; rfl
theorem Ar.ln (h : Ar f k F w v xs) (hK : K (.int .i64 xs.length) w') : lnS v K w' := by
  obtain ⟨a, cap, rfl⟩ := h.form; exact hK
theorem Ar.ix (h : Ar f k F w v xs) {i : Nat} (hi : i < xs.length) {q : IntKind} (hK : ∀ b o, F b → Cells w b o (f xs[i]) → K (.pointer (some ⟨b, o, none⟩)) w') : ixs k v (.int q i) K w' := by
  rcases h.2 with ⟨a, cap, rfl, rfl⟩ | ⟨b, o, cap, rfl, _, hF, _, hc⟩
  · simp at hi
  · refine ⟨⟨by omega, by omega⟩, ?_⟩
    have e1 : ((i : Int)).toNat = i := by omega
    rw [e1, add_mk]
    exact hK b _ hF (hc i hi)
theorem Ar.kp (h : Ar f k F w v xs) (hk : Kp S w w') (hn : ∀ b, F b → ¬ S b) : Ar f k F w' v xs := by
  refine ⟨h.1, ?_⟩
  rcases h.2 with q | ⟨b, o, cap, e, h1, hF, h0, hc⟩
  · exact .inl q
  · exact .inr ⟨b, o, cap, e, h1, hF, h0, fun i hi => (hc i hi).kp hk (hn b hF)⟩
theorem Ar.kp' (h : Ar f k F w v xs) (hk : Kp (fun _ => False) w w') : Ar f k F w' v xs := h.kp hk fun _ _ q => q
theorem Ar.mono (h : Ar f k F w v xs) (hs : ∀ b, F b → G b) : Ar f k G w v xs := by
  refine ⟨h.1, ?_⟩
  rcases h.2 with q | ⟨b, o, cap, e, h1, hF, h0, hc⟩
  · exact .inl q
  · exact .inr ⟨b, o, cap, e, h1, hs b hF, h0, hc⟩
theorem Ar.nil : Ar f k F w (.slice none 0 0) [] := ⟨by simp, .inl ⟨none, 0, rfl, rfl⟩⟩
theorem Ar.lt (hk : ∀ x, (f x).length = k) (h0 : 0 < k) (h : Ar f k F w v xs) : ∃ G : Nat → Prop, Ar f k G w v xs ∧ ∀ b, G b → F b ∧ b < w.heap.size := by
  rcases h.2 with q | ⟨b, o, cap, e, h1, hF, hp, hc⟩
  · exact ⟨fun _ => False, ⟨h.1, .inl q⟩, fun b q => q.elim⟩
  · refine ⟨fun x => x = b, ⟨h.1, .inr ⟨b, o, cap, e, h1, rfl, hp, hc⟩⟩, fun x hx => ?_⟩
    subst hx
    refine ⟨hF, ?_⟩
    have h2 := hc 0 hp 0 (by rw [hk]; exact h0)
    rw [List.getElem?_eq_getElem (by rw [hk]; exact h0)] at h2
    rcases Nat.lt_or_ge x w.heap.size with h' | h'
    · exact h'
    · simp [World.cell?, Array.getElem?_eq_none h'] at h2
theorem Cells.app {xs ys : List Value} {b o : Nat} (h1 : Cells w b o xs) (h2 : Cells w b (o + xs.length) ys) : Cells w b o (xs ++ ys) := by
  intro j hj
  rw [List.length_append] at hj
  rcases Nat.lt_or_ge j xs.length with q | q
  · rw [h1 j q, List.getElem?_append_left q]
  · have := h2 (j - xs.length) (by omega)
    rw [List.getElem?_append_right q, ← this]
    congr 2
    omega
theorem cells_rows (hk : ∀ x, (f x).length = k) {b : Nat} : ∀ (xs : List α) (o : Nat), (∀ i (h : i < xs.length), Cells w b (o + i * k) (f xs[i])) → Cells w b o (rows f xs)
  | [], o, _ => by intro j hj; simp [rows] at hj
  | x :: xs, o, h => by
    rw [rows_cons]
    refine Cells.app ?_ ?_
    · have := h 0 (by simp)
      rw [Nat.zero_mul, Nat.add_zero] at this
      exact this
    · rw [hk]
      refine cells_rows hk xs (o + k) fun i hi => ?_
      have := h (i + 1) (by simp; omega)
      rw [Nat.add_mul, Nat.one_mul] at this
      rw [show o + k + i * k = o + (i * k + k) by omega]
      exact this
theorem Ar.rds (hk : ∀ x, (f x).length = k) (h : Ar f k F w v xs) : Rds f k w v xs := by
  refine ⟨h.form, fun kk hkk => ?_⟩
  rcases h.2 with ⟨a, cap, rfl, rfl⟩ | ⟨b, o, cap, rfl, _, hF, _, hc⟩
  · cases a with
    | none => exact ⟨rfl, hkk⟩
    | some a =>
      show ldc a w 0 (0 * k) kk
      rw [Nat.zero_mul]
      exact hkk
  · show ldc _ w 0 (xs.length * k) kk
    have := cells_rows hk xs o hc
    exact this.ldc _ 0 _ (by rw [rows_length hk]; omega) hkk
theorem Sl.rds (hk : ∀ x, (f x).length = k) (h : Sl f k w e ob v xs) : Rds f k w v xs := by
  cases ob with
  | none =>
    obtain ⟨rfl, rfl⟩ := h
    exact ⟨⟨_, _, rfl⟩, fun kk hkk => ⟨rfl, hkk⟩⟩
  | some b =>
    obtain ⟨cap, junk, rfl, h2, h3, h4⟩ := h
    refine ⟨⟨_, _, rfl⟩, fun kk hkk => ?_⟩
    have hlr := rows_length hk xs
    show ldc _ _ 0 (xs.length * k) kk
    refine ldc_r h4 _ 0 _ (by rw [List.length_append, hlr]; omega) ?_
    have e1 : (List.drop (0 + 0) (rows f xs ++ junk)).take (xs.length * k) = rows f xs := by
      rw [List.drop_zero, List.take_append_of_le_length (by omega), List.take_of_length_le (by omega)]
    rw [e1]; exact hkk
theorem Sl.ar (hk : ∀ x, (f x).length = k) (h : Sl f k w e ob v xs) (hl : xs.length ≤ 140737488355328) (hF : ∀ b, ob = some b → F b) : Ar f k F w v xs := by
  refine ⟨hl, ?_⟩
  cases ob with
  | none => obtain ⟨rfl, rfl⟩ := h; exact .inl ⟨_, _, rfl, rfl⟩
  | some b =>
    obtain ⟨cap, junk, rfl, h2, h3, h4⟩ := h
    by_cases h0 : 0 < xs.length
    · refine .inr ⟨b, 0, cap, rfl, h2, hF b rfl, h0, fun i hi => ?_⟩
      have hle := rows_le hk xs i hi
      intro j hj
      rw [hk] at hj
      rw [h4.cell, Nat.zero_add, List.getElem?_append_left (by omega), rows_get hk xs i hi j hj]
    · have : xs = [] := List.eq_nil_of_length_eq_zero (by omega)
      subst this
      exact .inl ⟨_, _, rfl, rfl⟩
theorem Ar.row (hk : ∀ x, (f x).length = k) {b : Nat} (r : Row w b e (rows f xs)) (hF : F b) (hl : xs.length ≤ 140737488355328) : Ar f k F w (.slice (some ⟨b, 0, none⟩) xs.length xs.length) xs :=
  Sl.ar (ob := some b) hk ⟨xs.length, [], rfl, Nat.le_refl _, by simp, by rw [List.append_nil]; exact r⟩ hl (fun b' e => by cases e; exact hF)
/-- append of what is read -/
theorem Sl.app3 {z : List Value} {by_ : Nat} (hk : ∀ x, (f x).length = k) (hz : z.length = k) (hs : ∀ y ∈ ys, (f y).all Go.Sh.scal = true) (h : Sl f k w e ob v xs) (h2 : Rds f k w v2 ys)
    (hsz : (xs.length + ys.length) * by_ ≤ 140737488355328) (hlen : xs.length + ys.length < 9223372036854775808)
    (hK : ∀ w' v' ob', Sl f k w' e ob' v' (xs ++ ys) → Kp (fun b => ob = some b) w w' → (ob' = ob ∨ ∃ b, ob' = some b ∧ w.heap.size ≤ b) → K v' w') :
    apq e z by_ v v2 K w := by
  have hall : (rows f ys).all Go.Sh.scal = true := by
    clear hsz hlen hK h2
    induction ys with
    | nil => rfl
    | cons y ys ih => rw [rows_cons, List.all_append, hs y (List.mem_cons_self ..), ih (fun y hy => hs y (List.mem_cons_of_mem _ hy))]; rfl
  have hly := rows_length hk ys
  have rd1 := (Sl.rds hk h).2
  obtain ⟨⟨a2, c2, e2⟩, rd2⟩ := h2
  subst e2
  subst hz
  cases ob with
  | none =>
    obtain ⟨rfl, rfl⟩ := h
    refine ⟨by simpa using hsz, by simpa using hlen, fun q => ?_, fun q => ?_⟩
    · have hn : ys = [] := by
        have : ys.length = 0 := by simpa using q
        exact List.eq_nil_of_length_eq_zero this
      subst hn
      refine ⟨rfl, ?_⟩
      exact hK w _ none ⟨rfl, rfl⟩ (Kp.refl _ _) (.inl rfl)
    · refine ⟨rfl, ?_⟩
      refine rd2 _ fun c hc => ?_
      refine hK _ _ (some w.heap.size) ⟨c, zrep z ((c - (0 + ys.length)) * z.length), by simp, by simp at hc ⊢; omega, by simp [zrep], ?_⟩ ?_ (.inr ⟨_, rfl, Nat.le_refl _⟩)
      · have := Row.new (drw w) e (rows f ([] ++ ys) ++ zrep z ((c - (0 + ys.length)) * z.length))
        simpa [rows] using this
      · exact kp_drw.trans (kp_alloc _)
  | some b =>
    obtain ⟨cap, junk, rfl, h2', h3, h4⟩ := h
    have hlr := rows_length hk xs
    refine ⟨hsz, hlen, fun q => ?_, fun q => ?_⟩
    · refine rd2 _ ?_
      rw [add_mk, Nat.zero_add]
      have hj : ys.length * z.length ≤ junk.length := by rw [h3]; exact Nat.mul_le_mul_right _ (by omega)
      refine stc_r (o := xs.length * z.length) (rows f ys) 0 w _ h4 (by rw [List.length_append, hlr, hly]; omega) hall fun w2 r2 hb2 hz2 => ?_
      refine hK w2 _ (some b) ⟨cap, junk.drop (ys.length * z.length), by simp, by simp; omega, ?_, ?_⟩ ?_ (.inl rfl)
      · rw [List.length_drop, h3, List.length_append, ← Nat.sub_sub, Nat.sub_mul (cap - xs.length) ys.length z.length]
      · have e1 : List.take (xs.length * z.length + 0) (rows f xs ++ junk) = rows f xs := by rw [Nat.add_zero, List.take_append_of_le_length (by omega), List.take_of_length_le (by omega)]
        have e2 : List.drop (xs.length * z.length + 0 + (rows f ys).length) (rows f xs ++ junk) = junk.drop (ys.length * z.length) := by
          rw [Nat.add_zero, hly, List.drop_append, hlr, List.drop_of_length_le (by omega), List.nil_append, Nat.add_sub_cancel_left]
        rw [e1, e2] at r2
        rw [rows_append, List.append_assoc]
        exact r2
      · exact hb2.mono fun x _ (e : x = b) => by rw [e]
    · refine rd1 _ (rd2 _ fun c hc => ?_)
      refine hK _ _ (some w.heap.size) ⟨c, zrep z ((c - (xs.length + ys.length)) * z.length), by simp, by simp; omega, by simp [zrep], ?_⟩ ?_ (.inr ⟨_, rfl, Nat.le_refl _⟩)
      · have := Row.new (drw w) e (rows f xs ++ (rows f ys ++ zrep z ((c - (xs.length + ys.length)) * z.length)))
        rw [rows_append, List.append_assoc]
        exact this
      · exact kp_drw.trans (kp_alloc _)
theorem Sl.lt {b : Nat} (h : Sl f k w e (some b) v xs) : b < w.heap.size := by
  obtain ⟨cap, junk, _, _, _, r⟩ := h
  exact r.lt
/-- a fresh copy: append([]T{}, x...) -/
theorem ar_copy {z : List Value} {by_ : Nat} (hk : ∀ x, (f x).length = k) (hz : z.length = k) (hs : ∀ y ∈ xs, (f y).all Go.Sh.scal = true) (h : Ar f k F w v xs) (hsz : xs.length * by_ ≤ 140737488355328)
    (hK : ∀ w' v' b, Sl f k w' e (some b) v' xs → Nb w w' b → Kp (fun _ => False) w w' → K v' w') : bsq e z 0 [] (fun t w => apq e z by_ t v K w) w := by
  have hl := h.len
  refine Sl.empty (f := f) (k := k) fun w1 s1 hk1 hz1 => ?_
  refine Sl.app3 hk hz hs s1 ((h.kp' hk1).rds hk) (by simpa using hsz) (by simp; omega) fun w2 v2 ob2 s2 hk2 ho2 => ?_
  rw [List.nil_append] at s2
  have k2 : Kp (fun _ => False) w w2 := hk1.then hk2 fun b hb q => by cases q; omega
  rcases ho2 with rfl | ⟨b2, rfl, hb2⟩
  · exact hK w2 v2 w.heap.size s2 ⟨Nat.le_refl _, s2.lt⟩ k2
  · exact hK w2 v2 b2 s2 ⟨by have := hk1.size; omega, s2.lt⟩ k2
/-- append([]T(nil), x...) -/
theorem ar_copy0 {z : List Value} {by_ : Nat} (hk : ∀ x, (f x).length = k) (hz : z.length = k) (hs : ∀ y ∈ xs, (f y).all Go.Sh.scal = true) (h : Ar f k F w v xs) (hsz : xs.length * by_ ≤ 140737488355328)
    (hK : ∀ w' v' ob, Sl f k w' e ob v' xs → (∀ b, ob = some b → Nb w w' b) → Kp (fun _ => False) w w' → K v' w') : apq e z by_ (.slice none 0 0) v K w := by
  have hl := h.len
  refine Sl.app3 (ob := none) (xs := []) hk hz hs ⟨rfl, rfl⟩ (h.rds hk) (by simpa using hsz) (by simp; omega) fun w2 v2 ob2 s2 hk2 ho2 => ?_
  rw [List.nil_append] at s2
  have k2 : Kp (fun _ => False) w w2 := hk2.mono fun _ _ q => by cases q
  refine hK w2 v2 ob2 s2 (fun b hb => ?_) k2
  subst hb
  rcases ho2 with q | ⟨b2, q, hb2⟩
  · cases q
  · cases q; exact ⟨hb2, s2.lt⟩
theorem sls_mk {a : Option Addr} {n cap : Nat} {l h : Int} {lov hiv : Option Value} (h1 : bv lov 0 = some l) (h2 : bv hiv n = some h) (hc : 0 ≤ l ∧ l ≤ h ∧ h ≤ cap)
    (hK : K (.slice (if cap = l.toNat then a else a.map (·.add (l.toNat * k))) (h.toNat - l.toNat) (cap - l.toNat)) w) : sls k (.slice a n cap) lov hiv K w := by
  simp only [sls, h1, h2]
  exact ⟨hc, hK⟩
/-- a part -/
theorem Ar.sub (h : Ar f k F w v xs) {lo hi : Nat} (h1 : lo ≤ hi) (h2 : hi ≤ xs.length) {lov hiv : Option Value} (hlo : bv lov 0 = some (lo : Int)) (hhi : ∀ a c, v = .slice a xs.length c → bv hiv xs.length = some (hi : Int)) (hK : ∀ v', Ar f k F w v' ((xs.drop lo).take (hi - lo)) → K v' w') : sls k v lov hiv K w' := by
  have hlen : ((xs.drop lo).take (hi - lo)).length = hi - lo := by rw [List.length_take, List.length_drop]; omega
  have hl := h.len
  obtain ⟨a, cap, rfl⟩ := h.form
  have e1 : ((lo : Int)).toNat = lo := by omega
  have e2 : ((hi : Int)).toNat = hi := by omega
  have hh := hhi _ _ rfl
  rcases h.2 with ⟨a', cap', e, e0⟩ | ⟨b, o, cap', e, hc1, hF, h0, hc⟩
  · subst e0
    simp only [List.length_nil] at h2
    obtain rfl : hi = 0 := by omega
    obtain rfl : lo = 0 := by omega
    refine sls_mk hlo hh ⟨by simp, by simp, by simp⟩ ?_
    refine hK _ ⟨by simp, .inl ⟨_, _, rfl, by simp⟩⟩
  · cases e
    refine sls_mk hlo hh ⟨by omega, by omega, by omega⟩ ?_
    refine hK _ ⟨by omega, ?_⟩
    rw [e1, e2]
    by_cases hz : hi - lo = 0
    · refine .inl ⟨_, _, by rw [hz], List.eq_nil_of_length_eq_zero (by omega)⟩
    · refine .inr ⟨b, o + lo * k, cap - lo, ?_, by omega, hF, by omega, fun i hi' => ?_⟩
      · rw [if_neg (by omega), Option.map_some, add_mk, hlen]
      · rw [hlen] at hi'
        have := hc (lo + i) (by omega)
        rw [Nat.add_mul, ← Nat.add_assoc] at this
        rw [List.getElem_take, List.getElem_drop]
        exact this
end
end Go.Sh
