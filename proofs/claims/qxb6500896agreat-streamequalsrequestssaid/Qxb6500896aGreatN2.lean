import Derived.Test.Qxb6500896aGreatN1
namespace Go.Proofs.Qxb6500896aGreat
open Go.Sh Go.RowKit
set_option linter.unusedVariables false
set_option linter.unusedSimpArgs false

/-! lists without repetition -/
theorem nd_sub : ∀ {l1 l2 : List Int}, l1.Nodup → (∀ x ∈ l1, x ∈ l2) → l1.length ≤ l2.length
  | [], l2, _, _ => by simp
  | a :: l1, l2, hn, hs => by
    have ha : a ∈ l2 := hs a List.mem_cons_self
    have hn' := List.nodup_cons.1 hn
    have ih := nd_sub (l1 := l1) (l2 := l2.erase a) hn'.2 (fun x hx => (List.mem_erase_of_ne (fun (e : x = a) => hn'.1 (e ▸ hx))).2 (hs x (List.mem_cons_of_mem _ hx)))
    rw [List.length_erase_of_mem ha] at ih
    have : 0 < l2.length := List.length_pos_of_mem ha
    rw [List.length_cons]; omega
theorem nd_mem {l1 l2 : List Int} (hn : l1.Nodup) (hs : ∀ x ∈ l1, x ∈ l2) (hl : l2.length ≤ l1.length) : ∀ x ∈ l2, x ∈ l1 := by
  intro x hx
  by_cases q : x ∈ l1
  · exact q
  · have := nd_sub (l1 := x :: l1) (l2 := l2) (List.nodup_cons.2 ⟨q, hn⟩) (fun y hy => (List.mem_cons.1 hy).elim (fun e => e ▸ hx) (hs y))
    rw [List.length_cons] at this; omega
/-! ids -/
/-- a record's id is its place -/
def Ids (rs : List Rec) : Prop := ∀ i (h : i < rs.length), rs[i].id = ((i + 1 : Nat) : Int)
theorem Ids.rget {rs : List Rec} {id : Int} (h : Ids rs) (hh : has rs id) : rget rs id ∈ rs ∧ (rget rs id).id = id := by
  obtain ⟨i, hi, hlt⟩ := has_at hh
  rw [rget_at hi hlt]
  exact ⟨List.getElem_mem hlt, by rw [h i hlt, hi]⟩
theorem Ids.of_mem {rs : List Rec} {r : Rec} (h : Ids rs) (hr : r ∈ rs) : has rs r.id ∧ Go.Proofs.Qxb6500896aGreat.rget rs r.id = r := by
  obtain ⟨i, hi, rfl⟩ := List.mem_iff_getElem.1 hr
  have := h i hi
  exact ⟨⟨by omega, by omega⟩, rget_at this hi⟩
theorem rget_set {rs : List Rec} {id y : Int} {r : Rec} (h : has rs id) : has (rset rs id r) y ↔ has rs y := by
  unfold has rset; rw [List.length_set]
theorem rget_rset {rs : List Rec} {id y : Int} {r : Rec} (h : has rs id) (hy : has rs y) : Go.Proofs.Qxb6500896aGreat.rget (rset rs id r) y = if y = id then r else Go.Proofs.Qxb6500896aGreat.rget rs y := by
  obtain ⟨i, hi, hlt⟩ := has_at h
  obtain ⟨j, hj, hjl⟩ := has_at hy
  rw [rset_at hi, rget_at hj (by rw [List.length_set]; exact hjl), List.getElem_set, rget_at hj hjl]
  by_cases q : i = j
  · subst q; rw [if_pos rfl, if_pos (by omega)]
  · rw [if_neg q, if_neg (by omega)]
theorem Ids.set {rs : List Rec} {i : Nat} {r : Rec} (h : Ids rs) (hi : i < rs.length) (hr : r.id = rs[i].id) : Ids (rs.set i r) := fun j hj => by
  rw [List.getElem_set]
  split
  · rename_i e; subst e; rw [hr]; exact h _ hi
  · exact h j (by simpa using hj)
theorem Ids.app {rs : List Rec} {r : Rec} (h : Ids rs) (hr : r.id = ((rs.length + 1 : Nat) : Int)) : Ids (rs ++ [r]) := fun j hj => by
  rw [List.getElem_append]
  split
  · rename_i q; exact h j q
  · rename_i q
    have : j = rs.length := by simp at hj; omega
    subst this
    simp [hr]
theorem Ids.map {rs : List Rec} {f : Rec → Rec} (h : Ids rs) (hf : ∀ r, (f r).id = r.id) : Ids (rs.map f) := fun j hj => by
  rw [List.getElem_map, hf]; exact h j (by simpa using hj)
theorem Ids.pw {rs : List Rec} (h : Ids rs) : rs.Pairwise (fun a b => a.id < b.id) := by
  rw [List.pairwise_iff_getElem]
  intro i j hi hj hij
  rw [h i hi, h j hj]; omega
/-! the lines -/
theorem chkLine_iff {rs : List Rec} {attr : Int} : ∀ {l : List Int} {b : Int}, chkLine rs attr b l = true ↔ (∀ x ∈ l, b < x) ∧ l.Pairwise (· < ·) ∧ ∀ x ∈ l, x ≤ ((rs.length : Nat) : Int) ∧ (rget rs x).st = 7 ∧ (rget rs x).ln = attr + 1
  | [], b => by simp [chkLine]
  | a :: l, b => by
    rw [chkLine]
    simp only [Bool.and_eq_true, decide_eq_true_eq, chkLine_iff (l := l) (b := a), List.mem_cons, forall_eq_or_imp, List.pairwise_cons]
    constructor
    · rintro ⟨⟨⟨h1, h2⟩, h3, h4⟩, h5, h6, h7⟩
      exact ⟨⟨h1, fun x hx => by have := h5 x hx; omega⟩, ⟨h5, h6⟩, ⟨h2, h3, h4⟩, h7⟩
    · rintro ⟨⟨h1, h1'⟩, ⟨h5, h6⟩, ⟨h2, h3, h4⟩, h7⟩
      exact ⟨⟨⟨h1, h2⟩, h3, h4⟩, h5, h6, h7⟩
theorem chkLs_iff {C : Cfg} {rs : List Rec} : ∀ {ls : List (List Int)} {k : Nat}, chkLs C rs k ls = true ↔ ∀ j (h : j < ls.length), ((ls[j].length : Nat) : Int) ≤ C.mx ∧ chkLine rs ((k + j : Nat) : Int) 0 ls[j] = true
  | [], k => by simp [chkLs]
  | l :: ls, k => by
    rw [chkLs]
    simp only [Bool.and_eq_true, decide_eq_true_eq, chkLs_iff (ls := ls) (k := k + 1)]
    constructor
    · rintro ⟨h1, h2⟩ j hj
      cases j with
      | zero => exact h1
      | succ j =>
        have := h2 j (by simpa using hj)
        rw [show k + (j + 1) = k + 1 + j by omega]
        exact this
    · intro h
      refine ⟨h 0 (by simp), fun j hj => ?_⟩
      have := h (j + 1) (by simpa using hj)
      rw [show k + (j + 1) = k + 1 + j by omega] at this
      exact this
/-- the lines hold just the waiting records, each in its own line, in the order of their ids -/
structure Ls (C : Cfg) (rs : List Rec) (ls : List (List Int)) : Prop where
  len : ls.length = C.ats.length
  mx : ∀ l ∈ ls, ((l.length : Nat) : Int) ≤ C.mx
  ord : ∀ l ∈ ls, l.Pairwise (· < ·)
  at_ : ∀ k (h : k < ls.length), ∀ id ∈ ls[k], has rs id ∧ (rget rs id).st = 7 ∧ (rget rs id).ln = ((k : Nat) : Int) + 1
  all : ∀ id, has rs id → (rget rs id).st = 7 → ∃ l ∈ ls, id ∈ l
section
variable {C : Cfg} {rs : List Rec} {ls : List (List Int)}
theorem lens_flat (ls : List (List Int)) : lens ls = ls.flatten.length := by unfold lens; rw [List.length_flatten]
def wl (rs : List Rec) : List Int := (rs.filter fun r => r.st == 7).map (·.id)
theorem wl_len (rs : List Rec) : (wl rs).length = waits rs := by unfold wl waits; rw [List.length_map, List.countP_eq_length_filter]
theorem wl_nd (h : Ids rs) : (wl rs).Nodup := by
  unfold wl List.Nodup
  rw [List.pairwise_map]
  exact (h.pw.filter _).imp fun q => by omega
theorem wl_mem (h : Ids rs) {x : Int} : x ∈ wl rs ↔ has rs x ∧ (rget rs x).st = 7 := by
  unfold wl
  rw [List.mem_map]
  constructor
  · rintro ⟨r, hr, rfl⟩
    have hr' := List.mem_filter.1 hr
    have := h.of_mem hr'.1
    exact ⟨this.1, by rw [this.2]; simpa using hr'.2⟩
  · rintro ⟨hx, h7⟩
    have := h.rget hx
    exact ⟨_, List.mem_filter.2 ⟨this.1, by rw [h7]; rfl⟩, this.2⟩
theorem flat_nd (h2 : ∀ l ∈ ls, l.Pairwise (· < ·)) (h3 : ∀ k (h : k < ls.length), ∀ id ∈ ls[k], (rget rs id).ln = ((k : Nat) : Int) + 1) : ls.flatten.Nodup := by
  unfold List.Nodup
  rw [List.pairwise_flatten]
  refine ⟨fun l hl => (h2 l hl).imp fun q => by omega, ?_⟩
  rw [List.pairwise_iff_getElem]
  intro i j hi hj hij x hx y hy e
  subst e
  have a := h3 i hi x hx
  have b := h3 j hj x hy
  omega
theorem Ls.nd (h : Ls C rs ls) : ls.flatten.Nodup := flat_nd h.ord fun k hk id hid => (h.at_ k hk id hid).2.2
theorem Ls.of (hi : Ids rs) (h : chkLines C rs ls = true) : Ls C rs ls := by
  unfold chkLines at h
  simp only [Bool.and_eq_true, decide_eq_true_eq] at h
  obtain ⟨⟨h1, h2⟩, h3⟩ := h
  have h2' := chkLs_iff.1 h2
  have hat : ∀ k (h : k < ls.length), ∀ id ∈ ls[k], has rs id ∧ (rget rs id).st = 7 ∧ (rget rs id).ln = ((k : Nat) : Int) + 1 := fun k hk id hid => by
    obtain ⟨a, b, c⟩ := chkLine_iff.1 (h2' k hk).2
    have := c id hid
    rw [Nat.zero_add] at this
    exact ⟨⟨by have := a id hid; omega, this.1⟩, this.2⟩
  have hor : ∀ l ∈ ls, l.Pairwise (· < ·) := fun l hl => by
    obtain ⟨k, hk, rfl⟩ := List.mem_iff_getElem.1 hl
    exact (chkLine_iff.1 (h2' k hk).2).2.1
  have hnd : ls.flatten.Nodup := flat_nd hor fun k hk id hid => (hat k hk id hid).2.2
  refine ⟨h1, fun l hl => ?_, hor, hat, fun id hh h7 => ?_⟩
  · obtain ⟨k, hk, rfl⟩ := List.mem_iff_getElem.1 hl
    exact (h2' k hk).1
  · have := nd_mem hnd (l2 := wl rs) (fun x hx => ?_) (by rw [wl_len, h3, lens_flat]; omega) id ((wl_mem hi).2 ⟨hh, h7⟩)
    · exact List.mem_flatten.1 this
    · obtain ⟨l, hl, hx⟩ := List.mem_flatten.1 hx
      obtain ⟨k, hk, rfl⟩ := List.mem_iff_getElem.1 hl
      exact (wl_mem hi).2 ⟨(hat k hk x hx).1, (hat k hk x hx).2.1⟩
theorem Ls.wt (hi : Ids rs) (h : Ls C rs ls) : waits rs = lens ls := by
  rw [← wl_len, lens_flat]
  refine Nat.le_antisymm (nd_sub (wl_nd hi) fun x hx => ?_) (nd_sub h.nd fun x hx => ?_)
  · obtain ⟨a, b⟩ := (wl_mem hi).1 hx
    exact List.mem_flatten.2 (h.all x a b)
  · obtain ⟨l, hl, hx⟩ := List.mem_flatten.1 hx
    obtain ⟨k, hk, rfl⟩ := List.mem_iff_getElem.1 hl
    exact (wl_mem hi).2 ⟨(h.at_ k hk x hx).1, (h.at_ k hk x hx).2.1⟩
theorem Ls.chk (hi : Ids rs) (h : Ls C rs ls) : chkLines C rs ls = true := by
  unfold chkLines
  simp only [Bool.and_eq_true, decide_eq_true_eq]
  refine ⟨⟨h.len, chkLs_iff.2 fun j hj => ⟨h.mx _ (List.getElem_mem hj), ?_⟩⟩, h.wt hi⟩
  rw [chkLine_iff, Nat.zero_add]
  refine ⟨fun x hx => ?_, h.ord _ (List.getElem_mem hj), fun x hx => ?_⟩
  · have := (h.at_ j hj x hx).1.1; omega
  · obtain ⟨a, b, c⟩ := h.at_ j hj x hx
    exact ⟨a.2, b, c⟩
/-- the lines stay where the waiting records stay -/
theorem Ls.same {rs' : List Rec} (h : Ls C rs ls) (h1 : ∀ id, has rs id → (rget rs id).st = 7 → has rs' id ∧ (rget rs' id).st = 7 ∧ (rget rs' id).ln = (rget rs id).ln)
    (h2 : ∀ id, has rs' id → (rget rs' id).st = 7 → has rs id ∧ (rget rs id).st = 7) : Ls C rs' ls := by
  refine ⟨h.len, h.mx, h.ord, fun k hk id hid => ?_, fun id a b => ?_⟩
  · obtain ⟨a, b, c⟩ := h.at_ k hk id hid
    obtain ⟨a', b', c'⟩ := h1 id a b
    exact ⟨a', b', by rw [c', c]⟩
  · obtain ⟨a', b'⟩ := h2 id a b
    exact h.all id a' b'
/-- a record that does not wait is changed into one that does not -/
theorem Ls.put {id : Int} {r : Rec} (h : Ls C rs ls) (hh : has rs id) (h7 : (rget rs id).st ≠ 7) (hr : r.st ≠ 7) : Ls C (rset rs id r) ls := by
  refine h.same (fun y a b => ?_) fun y a b => ?_
  · have hne : y ≠ id := fun e => h7 (e ▸ b)
    rw [rget_set hh, rget_rset hh a, if_neg hne]
    exact ⟨a, b, rfl⟩
  · rw [rget_set hh] at a
    rw [rget_rset hh a] at b
    by_cases e : y = id
    · rw [if_pos e] at b; exact absurd b hr
    · rw [if_neg e] at b; exact ⟨a, b⟩
theorem has_app {r : Rec} {y : Int} (h : has rs y) : has (rs ++ [r]) y ∧ rget (rs ++ [r]) y = rget rs y := by
  obtain ⟨i, hi, hlt⟩ := has_at h
  refine ⟨⟨h.1, by have := h.2; rw [List.length_append]; simp; omega⟩, ?_⟩
  rw [rget_at hi (by rw [List.length_append]; omega), rget_at hi hlt, List.getElem_append_left hlt]
theorem has_last {r : Rec} {y : Int} (h : has (rs ++ [r]) y) : has rs y ∨ (y = ((rs.length + 1 : Nat) : Int) ∧ rget (rs ++ [r]) y = r) := by
  by_cases q : y ≤ ((rs.length : Nat) : Int)
  · exact .inl ⟨h.1, q⟩
  · have h2 := h.2
    rw [List.length_append] at h2
    have e : y = ((rs.length + 1 : Nat) : Int) := by simp at h2; omega
    refine .inr ⟨e, ?_⟩
    rw [rget_at e (by simp)]; simp
theorem Ls.add {r : Rec} (h : Ls C rs ls) (hr : r.st ≠ 7) : Ls C (rs ++ [r]) ls := by
  refine h.same (fun y a b => ?_) fun y a b => ?_
  · obtain ⟨c, d⟩ := has_app (r := r) a
    exact ⟨c, by rw [d]; exact b, by rw [d]⟩
  · rcases has_last a with q | ⟨_, q⟩
    · exact ⟨q, by rw [(has_app (r := r) q).2] at b; exact b⟩
    · rw [q] at b; exact absurd b hr
/-- a waiting record is added, at the end of its line -/
theorem Ls.join {r : Rec} {k : Nat} (h : Ls C rs ls) (hk : k < ls.length) (hmx : ((ls[k].length : Nat) : Int) < C.mx) (h7 : r.st = 7) (hln : r.ln = ((k : Nat) : Int) + 1) : Ls C (rs ++ [r]) (ls.set k (ls[k] ++ [((rs.length + 1 : Nat) : Int)])) := by
  have hlast : has (rs ++ [r]) ((rs.length + 1 : Nat) : Int) ∧ rget (rs ++ [r]) ((rs.length + 1 : Nat) : Int) = r := by
    refine ⟨⟨by omega, by rw [List.length_append]; simp⟩, ?_⟩
    rw [rget_at rfl (by simp)]; simp
  refine ⟨by rw [List.length_set]; exact h.len, fun l hl => ?_, fun l hl => ?_, fun j hj id hid => ?_, fun id a b => ?_⟩
  · rcases List.mem_or_eq_of_mem_set hl with q | q
    · exact h.mx l q
    · rw [q, List.length_append]; simp; omega
  · rcases List.mem_or_eq_of_mem_set hl with q | q
    · exact h.ord l q
    · rw [q, List.pairwise_append]
      refine ⟨h.ord _ (List.getElem_mem hk), by simp, fun x hx y hy => ?_⟩
      rw [List.mem_singleton.1 hy]
      have := (h.at_ k hk x hx).1.2
      omega
  · rw [List.getElem_set] at hid
    have old : ∀ {j : Nat} (hj : j < ls.length), id ∈ ls[j] → has (rs ++ [r]) id ∧ (rget (rs ++ [r]) id).st = 7 ∧ (rget (rs ++ [r]) id).ln = ((j : Nat) : Int) + 1 := fun hj hid => by
      obtain ⟨a, b, c⟩ := h.at_ _ hj id hid
      obtain ⟨d, e⟩ := has_app (r := r) a
      rw [e]; exact ⟨d, b, c⟩
    split at hid
    · rename_i e
      subst e
      rcases List.mem_append.1 hid with q | q
      · exact old hk q
      · rw [List.mem_singleton.1 q, hlast.2]
        exact ⟨hlast.1, h7, hln⟩
    · exact old (by simpa using hj) hid
  · rcases has_last a with q | ⟨q, _⟩
    · rw [(has_app (r := r) q).2] at b
      obtain ⟨l, hl, hid⟩ := h.all id q b
      obtain ⟨j, hj, rfl⟩ := List.mem_iff_getElem.1 hl
      by_cases e : j = k
      · subst e
        exact ⟨_, List.mem_iff_getElem.2 ⟨j, by rw [List.length_set]; exact hj, by rw [List.getElem_set_self]⟩, List.mem_append_left _ hid⟩
      · refine ⟨ls[j], List.mem_iff_getElem.2 ⟨j, by rw [List.length_set]; exact hj, by rw [List.getElem_set_ne (by omega)]⟩, hid⟩
    · refine ⟨_, List.mem_iff_getElem.2 ⟨k, by rw [List.length_set]; exact hk, by rw [List.getElem_set_self]⟩, ?_⟩
      rw [q]; simp
/-- a record waits no longer -/
theorem Ls.gone {id : Int} {r : Rec} (h : Ls C rs ls) (hh : has rs id) (hr : r.st ≠ 7) : Ls C (rset rs id r) (tRemove id ls) := by
  unfold tRemove
  refine ⟨by rw [List.length_map]; exact h.len, fun l hl => ?_, fun l hl => ?_, fun j hj y hy => ?_, fun y a b => ?_⟩
  · obtain ⟨l0, h0, rfl⟩ := List.mem_map.1 hl
    have := h.mx l0 h0
    have := List.length_filter_le (· != id) l0
    omega
  · obtain ⟨l0, h0, rfl⟩ := List.mem_map.1 hl
    exact (h.ord l0 h0).filter _
  · rw [List.getElem_map] at hy
    obtain ⟨q1, q2⟩ := List.mem_filter.1 hy
    have hne : y ≠ id := by simpa using q2
    obtain ⟨a, b, c⟩ := h.at_ j (by simpa using hj) y q1
    rw [rget_set hh, rget_rset hh a, if_neg hne]
    exact ⟨a, b, c⟩
  · rw [rget_set hh] at a
    rw [rget_rset hh a] at b
    by_cases e : y = id
    · rw [if_pos e] at b; exact absurd b hr
    · rw [if_neg e] at b
      obtain ⟨l, hl, hy⟩ := h.all y a b
      exact ⟨_, List.mem_map_of_mem hl, List.mem_filter.2 ⟨hy, by simpa using e⟩⟩
theorem Ls.map {f : Rec → Rec} (h : Ls C rs ls) (h1 : ∀ r, (f r).st = 7 ↔ r.st = 7) (h2 : ∀ r, (f r).ln = r.ln) : Ls C (rs.map f) ls := by
  have e : ∀ y, has rs y → rget (rs.map f) y = f (rget rs y) := fun y a => by
    obtain ⟨i, hi, hlt⟩ := has_at a
    rw [rget_at hi (by rw [List.length_map]; exact hlt), rget_at hi hlt, List.getElem_map]
  have hm : ∀ y, has (rs.map f) y ↔ has rs y := fun y => by unfold has; rw [List.length_map]
  refine h.same (fun y a b => ?_) fun y a b => ?_
  · rw [hm, e y a, h1, h2]; exact ⟨a, b, rfl⟩
  · rw [hm] at a
    rw [e y a, h1] at b
    exact ⟨a, b⟩
end
end Go.Proofs.Qxb6500896aGreat
