import Derived.Test.Qxb6500897aP28
namespace Go.Proofs.Qxb6500897a
open Go.Sh Go.RowKit
set_option linter.unusedVariables false
set_option linter.unusedSimpArgs false

/-! ### the state of a law's loop -/
structure St (W w : World) (d tb : Nat) (now : Int) (ts : List Tab) (L : List Ent) : Prop where
  tabs : Tabs w d tb 6 90 now ts
  good : Good now ts L
  hd : W.heap.size ≤ d
  hb : ∀ b ∈ blks ts, W.heap.size ≤ b
  bel : Below W.heap.size W w

section
variable {W w w' : World} {d tb : Nat} {now : Int} {ts : List Tab} {L : List Ent}
theorem St.sys (h : St W w d tb now ts L) : Sys w d tb now ts := h.good.sys h.tabs
theorem St.kp (h : St W w d tb now ts L) (hk : Kp (fun _ => False) w w') : St W w' d tb now ts L :=
  ⟨h.tabs.kp hk, h.good, h.hd, h.hb, h.bel.trans (hk.below h.bel.size (fun _ _ h => h))⟩
end

theorem blks_map {ts : List Tab} {f : Tab → Tab} (h : ∀ t, (f t).ob = t.ob ∧ (f t).ab = t.ab) : blks (ts.map f) = blks ts := by
  unfold blks
  induction ts with
  | nil => rfl
  | cons t ts ih => simp [List.flatMap_cons, (h t).1, (h t).2] at ih ⊢; exact ih

theorem blks_set' {ts : List Tab} {a : Nat} {t' : Tab} (h : ∀ h : a < ts.length, t'.ob = ts[a].ob ∧ t'.ab = ts[a].ab) : blks (ts.set a t') = blks ts := by
  by_cases ha : a < ts.length
  · exact blks_set ha (h ha).1 (h ha).2
  · rw [List.set_eq_of_length_le (by omega)]

theorem blks_step (now : Int) (ts : List Tab) (o : Op) : blks (stepP now ts o).ts = blks ts := by
  unfold stepP
  split
  · unfold admitTs
    show blks (if _ then _ else _) = _
    split
    · exact blks_set' fun h => by rw [tabOf_eq h]; exact ⟨rfl, rfl⟩
    · rfl
  split
  · unfold relTs
    show blks (if _ then _ else _) = _
    split
    · exact blks_set' fun h => by rw [tabOf_eq h]; exact ⟨rfl, rfl⟩
    · rfl
  split
  · unfold advTs
    show blks (if _ then _ else _) = _
    split
    · exact blks_map fun t => ⟨rfl, rfl⟩
    · rfl
  repeat (first | rfl | (split; rfl))

theorem play_st {W w : World} {d tb : Nat} {now : Int} {ts : List Tab} {L : List Ent} {o : Op} {K : Value → World → Prop} (h : St W w d tb now ts L)
    (hK : ∀ w', St W w' d tb (stepP now ts o).now (stepP now ts o).ts (stepL now L o) → Kp (fun k => k = d ∨ k ∈ blks ts) w w' → K (.tuple #[I (stepP now ts o).code, I (stepP now ts o).val]) w') :
    cl Try.prog 17 #[.pointer (some ⟨d, 0, none⟩), .agg o.cells.toArray] K w := by
  refine play_ok h.sys (by rw [h.good.len]; omega) fun w' ht hk => hK w' ⟨ht, h.good.step o, h.hd, ?_, ?_⟩ hk
  · rw [blks_step]; exact h.hb
  · refine h.bel.trans (hk.below h.bel.size fun k hk' e => ?_)
    have := h.hd
    rcases e with e | e
    · omega
    · have := h.hb k e; omega

theorem fresh_st {w : World} {K : Value → World → Prop} (hK : ∀ w' d tb ts, St w w' d tb 0 ts [] → Kp (fun _ => False) w w' → w.heap.size ≤ d → K (.pointer (some ⟨d, 0, none⟩)) w') : cl Try.prog 14 #[] K w := by
  refine fresh_ok fun w' d tb ts hd htb hf ht hb hk => hK w' d tb ts ⟨ht, fresh_good hf, hd, hb, hk.below'⟩ hk hd

/-- the head of a round: a step of the script goes into a new block -/
theorem Scr.take {W w : World} {v : Value} {ops : List Op} {k : Value → World → Prop} (h : Scr W v ops) (hb : Below W.heap.size W w) {i : Nat} (hi : i < ops.length)
    (hk : ∀ w1 b, Row w1 b 34 ops[i].cells → Kp (fun _ => False) w w1 → w.heap.size ≤ b → k (.pointer (some ⟨b, 0, none⟩)) w1) :
    ixs 6 v (I i) (fun p w => ldn 6 p (fun x w => nw 34 #[(.int .i64 0), (.int .i64 0), (.int .i64 0), (.int .i64 0), (.int .i64 0), (.int .i64 0)] (fun t w => stn 6 t x (fun w => k t w) w) w) w) w := by
  refine h.read hb hi ?_
  refine nw_r fun w1 r1 hb1 hz1 => ?_
  refine stn_r r1 rfl (Nat.le_of_ble_eq_true rfl) rfl fun w2 r2 hb2 hz2 => ?_
  exact hk w2 _ r2 (hb1.then hb2 (by intro k hk (e : k = _); omega)) (Nat.le_refl _)

theorem chkP_le (now attr slot cls n : Int) (r : Nat) : 0 ≤ chkP now attr slot cls n r ∧ chkP now attr slot cls n r ≤ 4 := by
  unfold chkP
  repeat (first | omega | split)
end Go.Proofs.Qxb6500897a
