import Derived.Test.Qxb6500896aGreatM12
import Derived.Test.Qxb6500896aGreatD5
namespace Go.Proofs.Qxb6500896aGreat
open Go.Sh Go.RowKit
set_option linter.unusedVariables false
set_option linter.unusedSimpArgs false

theorem srvA_step {S : SrvS} {now : Int} {a : Nat} {p : Int × Int} (hp : firstOf park S.rs now (lnOf S.ls (a : Nat)) = some p) : srvA park now a (waits S.rs + 1) S = srvA park now a (waits (tIssue p.1 p.2 S.rs).1 + 1) ⟨(tIssue p.1 p.2 S.rs).1, tRemove p.1 S.ls, S.iss ++ [⟨p.1, p.2⟩]⟩ := by
  obtain ⟨hpm, hpo⟩ := firstOf_mem hp
  obtain ⟨hh, h7, _, _⟩ := tOffer_b hpo
  rw [srvA_some hp, tIssue_w hh h7]
theorem issM_eq {s : Ms} {seq : Int} {a : Nat} {p : Int × Int} (g : Gd park seq s.now s.rs s.ls) (ha : a < 3) (hp : firstOf park s.rs s.now (lnOf s.ls (a : Nat)) = some p) : issM s p.1 p.2 = ⟨s.now, (tIssue p.1 p.2 s.rs).1, tRemove p.1 s.ls⟩ ∧ has s.rs p.1 ∧ (rget s.rs p.1).ln = ((a : Nat) : Int) + 1 := by
  obtain ⟨hpm, hpo⟩ := firstOf_mem hp
  obtain ⟨hh, h7, _, _⟩ := tOffer_b hpo
  have h3 : park.ats.length = 3 := rfl
  have hal : a < s.ls.length := by rw [g.li.len]; omega
  have eln := lnOf_at hal
  rw [eln] at hpm
  obtain ⟨_, _, hln⟩ := g.li.at_ a hal _ hpm
  refine ⟨?_, hh, hln⟩
  unfold issM tIssue
  rw [if_pos hh, if_pos h7]
  congr 1
  rw [hln, show ((a : Nat) : Int) + 1 - 1 = ((a : Nat) : Int) by omega, eln, show (((a : Nat) : Int)).toNat = a by omega]
  refine List.ext_getElem (by rw [List.length_set]; unfold tRemove; rw [List.length_map]) fun i h1 h2 => ?_
  have e0 : (tRemove p.1 s.ls)[i] = (s.ls[i]'(by rw [List.length_set] at h1; exact h1)).filter (· != p.1) := List.getElem_map _
  rw [e0]
  rw [List.length_set] at h1
  by_cases e : a = i
  · subst e
    rw [List.getElem_set_self]
  · rw [List.getElem_set_ne e]
    refine (List.filter_eq_self.2 fun y hy => ?_).symm
    rw [bne_iff_ne]
    intro q
    subst q
    have := (g.li.at_ i h1 _ hy).2.2
    omega
section
variable {O G O2 O' S F : Nat → Prop} {w w' w0 : World} {m c : Nat} {now : Int} {va vt rv lv v : Value} {rob lob : Option Nat} {its : List (Rec × Value)} {ps : List Lm} {s s2 : Ms} {K : Value → World → Prop} {X : World → Prop} {seq : Int}
/-- the clock is set -/
theorem Mo.setNow {n : Int} (h : Mo O G w m s) (hX : ∀ w', Mo O G w' m ⟨n, s.rs, s.ls⟩ → Kp O w w' → w'.heap.size = w.heap.size → X w') : st1 (P m 14) (I n) X w := by
  obtain ⟨va, vt, rv, lv, rob, lob, its, ps, x, e1, e2⟩ := h
  obtain ⟨n1, n2, n3, n4, n5⟩ := x.nm
  have Om := x.own m (.inl rfl)
  refine st1_r x.row (show 14 < 17 by decide) rfl fun w1 r1 hk1 hz1 => ?_
  replace r1 : Row w1 m 119 (mrow va vt rv lv n) := r1
  refine hX w1 ⟨va, vt, rv, lv, rob, lob, its, ps, ⟨r1, x.cg.kp hk1 fun b q (r : b = m) => x.gd b q (r ▸ Om), x.rsl.kp hk1 fun b e (q : b = m) => n1 (q ▸ e), x.lsl.kp hk1 fun b e (q : b = m) => n2 (q ▸ e), fun p hp => (x.line p hp).kp hk1 fun b e (q : b = m) => n3 p hp (q ▸ e), x.pw, x.own, fun p hp => (x.legs p hp).kp hk1 fun b q (r : b = m) => q.2 (.inl r), x.gd, fun b q => by have := x.lt b q; omega⟩, e1, e2⟩ (hk1.mono fun b _ (q : b = m) => q ▸ Om) hz1
theorem Mo.sup (h : Mo O G w m s) (hO : ∀ b, O b → O' b) (hg : ∀ b, G b → ¬ O' b) (hlt : ∀ b, O' b → b < w.heap.size) : Mo O' G w m s := by
  obtain ⟨va, vt, rv, lv, rob, lob, its, ps, x, e1, e2⟩ := h
  exact ⟨va, vt, rv, lv, rob, lob, its, ps, x.sup hO hg hlt, e1, e2⟩
theorem Mo.gd (h : Mo O G w m s) : ∀ b, G b → ¬ O b := by
  obtain ⟨va, vt, rv, lv, rob, lob, its, ps, x, e1, e2⟩ := h
  exact x.gd
/-- the pairs of the issues -/
def isPr (l : List Iss) : List Int := l.flatMap fun x => [x.id, x.slot]
theorem isPr_len (l : List Iss) : (isPr l).length = 2 * l.length := by
  unfold isPr
  induction l with
  | nil => rfl
  | cons x l ih => rw [List.flatMap_cons, List.length_append, ih]; simp only [List.length_cons, List.length_nil]; omega
/-- a model at work since w0 -/
structure Mw (O G : Nat → Prop) (w0 : World) (O' : Nat → Prop) (w : World) (m : Nat) (s : Ms) : Prop where
  mo : Mo O' G w m s
  up : ∀ c, O c → O' c
  dn : ∀ c, O' c → O c ∨ Nb w0 w c
  k : Kp O w0 w
  g : ∀ b, G b → b < w0.heap.size
/-- what a model's function leaves: the state, the reply, both apart -/
abbrev MK (O G : Nat → Prop) (w0 : World) (m : Nat) (K : Value → World → Prop) (s : Ms) (l : List Int) : Prop :=
  ∀ w' v' b O', Mw O G w0 O' w' m s → Sl bC 1 w' 5 (some b) v' l → w0.heap.size ≤ b → ¬ O' b → K v' w'
theorem Mw.start (h : Mo O G w m s) : Mw O G w O w m s := ⟨h, fun _ q => q, fun _ q => .inl q, Kp.refl _ _, fun b q => h.lt b (.inr q)⟩
theorem Mw.upd (h : Mw O G w0 O' w m s) (h2 : Mo O2 G w' m s2) (hk : Kp O' w w') (up : ∀ c, O' c → O2 c) (dn : ∀ c, O2 c → O' c ∨ Nb w0 w' c) : Mw O G w0 O2 w' m s2 := by
  have s1 := hk.size
  refine ⟨h2, fun c q => up c (h.up c q), fun c q => ?_, h.k.then hk fun b hb q => ?_, h.g⟩
  · rcases dn c q with r | r
    · rcases h.dn c r with r | r
      · exact .inl r
      · exact .inr ⟨r.1, by have := r.2; omega⟩
    · exact .inr r
  · rcases h.dn b q with r | r
    · exact r
    · have := r.1; omega
theorem Mw.emp (h : Mw O G w0 O' w m s) (hk : Kp Emp w w') : Mw O G w0 O' w' m s := h.upd (h.mo.kp' hk) hk.none (fun _ q => q) fun _ q => .inl q
theorem Mw.kp (h : Mw O G w0 O' w m s) (hk : Kp S w w') (hS : ∀ b, S b → ¬ O' b ∧ w0.heap.size ≤ b) : Mw O G w0 O' w' m s := by
  have s1 := hk.size
  refine ⟨h.mo.kp hk fun b q => ⟨(hS b q).1, fun r => by have := h.g b r; have := (hS b q).2; omega⟩, h.up, fun c q => ?_, h.k.then hk fun b hb q => by have := (hS b q).2; omega, h.g⟩
  rcases h.dn c q with r | r
  · exact .inl r
  · exact .inr ⟨r.1, by have := r.2; omega⟩
theorem Mw.out {l : List Int} (h : Mw O G w0 O' w m s) (hK : MK O G w0 m K s l) : OutK w K l := fun w' v' b sl hb hk => by
  have s0 := h.k.size
  exact hK w' v' b O' (h.emp hk) sl (by omega) fun q => by have := h.mo.lt b (.inl q); omega
/-- the state is copied over -/
theorem Mw.copy (h : Mw O G w0 O' w m s) (h2 : Mo O2 G w c s2) (hd : ∀ b, O2 b → ¬ O' b) (hn : ∀ b, O2 b → Nb w0 w b) (hX : ∀ w', Mw O G w0 (fun b => O' b ∨ O2 b) w' m s2 → Kp O' w w' → w'.heap.size = w.heap.size → X w') :
    nck (P c 0) (fun t64 w => ldn 17 t64 (fun t65 w => nck (P m 0) (fun t66 w => stn 17 t66 t65 X w) w) w) w :=
  h.mo.copy h2 hd fun w' h' hk hz => hX w' (h.upd h' hk (fun _ q => .inl q) fun c q => q.imp id fun q => ⟨(hn c q).1, by have := (hn c q).2; omega⟩) hk hz
/-! ### a record of the model at hand -/
def Mq (O G : Nat → Prop) (w : World) (m : Nat) (s : Ms) (rb : Nat) : Prop :=
  ∃ va vt rv lv lob its ps, Mx O G w m s.now va vt rv lv (some rb) lob its ps ∧ its.map (·.1) = s.rs ∧ ps.map Lm.ids = s.ls
theorem Mq.mo {rb : Nat} (h : Mq O G w m s rb) : Mo O G w m s := by
  obtain ⟨va, vt, rv, lv, lob, its, ps, x, e1, e2⟩ := h
  exact ⟨va, vt, rv, lv, _, lob, its, ps, x, e1, e2⟩
theorem Mq.kp' {rb : Nat} (h : Mq O G w m s rb) (hk : Kp Emp w w') : Mq O G w' m s rb := by
  obtain ⟨va, vt, rv, lv, lob, its, ps, x, e1, e2⟩ := h
  exact ⟨va, vt, rv, lv, lob, its, ps, x.kp (S := Emp) hk fun b q => q.elim, e1, e2⟩
/-- a pointer to a record -/
theorem Mo.rec_ {j : Nat} {Y : Value → World → Prop} (h : Mo O G w m s) (hj : j < s.rs.length) (hX : ∀ rb, Mq O G w m s rb → Y (P rb (j * 7)) w) :
    nck (P m 0) (fun t12 w => fd 15 t12 (fun t13 w => ld1 t13 (fun t14 w => ixs 7 t14 (I (j : Nat)) Y w) w) w) w := by
  obtain ⟨va, vt, rv, lv, rob, lob, its, ps, x, e1, e2⟩ := h
  have hil : its.length = s.rs.length := by rw [← e1, List.length_map]
  refine nk0 (fdp (ld1_r (v := rv) x.row rfl ?_))
  have hsl := x.rsl
  cases hrob : rob with
  | none => rw [hrob] at hsl; obtain ⟨_, q⟩ := hsl; rw [← hil, q] at hj; simp at hj
  | some rb =>
    rw [hrob] at hsl
    subst hrob
    refine sl_ixp hsl (by omega) ?_
    exact hX rb ⟨va, vt, rv, lv, lob, its, ps, x, e1, e2⟩
theorem Mo.recI {id : Int} {j : Nat} {Y : Value → World → Prop} (h : Mo O G w m s) (ej : id = ((j + 1 : Nat) : Int)) (hj : j < s.rs.length) (hn : s.rs.length ≤ 1000) (hX : ∀ rb, Mq O G w m s rb → Y (P rb (j * 7)) w) :
    nck (P m 0) (fun t12 w => fd 15 t12 (fun t13 w => ld1 t13 (fun t14 w => boI .sub (I id) (I 1) (fun t16 w => ixs 7 t14 t16 Y w) w) w) w) w := by
  simp only [e_sub]
  rw [wrap64_id (by omega) (by omega), show id - 1 = ((j : Nat) : Int) by omega]
  exact h.rec_ hj hX
theorem Mq.cell {rb j k : Nat} {x : Value} (h : Mq O G w m s rb) (hj : j < s.rs.length) (hk : k < 6) (hx : (rC (s.rs[j], nilS))[k]? = some x) (hK : K x w) : ld1 (P rb (j * 7 + k)) K w := by
  obtain ⟨va, vt, rv, lv, lob, its, ps, y, e1, e2⟩ := h
  have hil : its.length = s.rs.length := by rw [← e1, List.length_map]
  have hj2 : j < its.length := by omega
  have ei : its[j].1 = s.rs[j] := by
    have : (its.map (·.1))[j]? = s.rs[j]? := by rw [e1]
    rw [List.getElem?_map, List.getElem?_eq_getElem hj2, List.getElem?_eq_getElem hj] at this
    exact Option.some.inj this
  refine sl_cell rC_len y.rsl hj2 (show k < 7 by omega) (x := x) ?_ hK
  rw [← hx, ← ei]
  unfold rC
  match k, hk with
  | 0, _ => rfl
  | 1, _ => rfl
  | 2, _ => rfl
  | 3, _ => rfl
  | 4, _ => rfl
  | 5, _ => rfl
/-- the record's legs -/
theorem Mq.legs {rb j : Nat} (h : Mq O G w m s rb) (hj : j < s.rs.length) (hK : ∀ v, Ar lC 2 O w v s.rs[j].legs → K v w) : ld1 (P rb (j * 7 + 6)) K w := by
  obtain ⟨va, vt, rv, lv, lob, its, ps, y, e1, e2⟩ := h
  have hil : its.length = s.rs.length := by rw [← e1, List.length_map]
  have hj2 : j < its.length := by omega
  have ei : its[j].1 = s.rs[j] := by
    have : (its.map (·.1))[j]? = s.rs[j]? := by rw [e1]
    rw [List.getElem?_map, List.getElem?_eq_getElem hj2, List.getElem?_eq_getElem hj] at this
    exact Option.some.inj this
  refine sl_cell rC_len y.rsl hj2 (show 6 < 7 by decide) (x := its[j].2) rfl (hK _ ?_)
  have := y.legs _ (List.getElem_mem hj2)
  rw [ei] at this
  exact this.mono fun b q => q.1
theorem Mo.nw (h : Mo O G w m s) (hK : K (I s.now) w) : ld1 (P m 14) K w := by
  obtain ⟨va, vt, rv, lv, rob, lob, its, ps, x, e1, e2⟩ := h
  exact ld1_r x.row rfl hK
theorem Mo.cf {k : Nat} {n : Int} (h : Mo O G w m s) (hk : ∀ va vt rv lv, (mrow va vt rv lv s.now)[k]? = some (I n)) (hK : K (I n) w) : ld1 (P m k) K w := by
  obtain ⟨va, vt, rv, lv, rob, lob, its, ps, x, e1, e2⟩ := h
  exact ld1_r x.row (hk _ _ _ _) hK
/-- the status is set -/
theorem Mq.set {rb j : Nat} {n : Int} (h : Mq O G w m s rb) (hj : j < s.rs.length) (hX : ∀ w', Mq O G w' m ⟨s.now, s.rs.set j { s.rs[j] with st := n }, s.ls⟩ rb → Kp O w w' → w'.heap.size = w.heap.size → X w') : st1 (P rb (j * 7 + 1)) (I n) X w := by
  obtain ⟨va, vt, rv, lv, lob, its, ps, y, e1, e2⟩ := h
  have hil : its.length = s.rs.length := by rw [← e1, List.length_map]
  have hj2 : j < its.length := by omega
  have ei : its[j].1 = s.rs[j] := by
    have : (its.map (·.1))[j]? = s.rs[j]? := by rw [e1]
    rw [List.getElem?_map, List.getElem?_eq_getElem hj2, List.getElem?_eq_getElem hj] at this
    exact Option.some.inj this
  have hlg := y.legs _ (List.getElem_mem hj2)
  refine y.setRec (y := ({ its[j].1 with st := n }, its[j].2)) rfl hj2 (show 1 < 7 by decide) rfl rfl hlg fun w2 x2 hk2 hz2 => ?_
  refine hX w2 ⟨va, vt, rv, lv, lob, _, ps, x2, ?_, e2⟩ (hk2.mono fun b _ q => y.own b q) hz2
  rw [List.map_set, e1, ei]
theorem Mw.ofQ {rb : Nat} (h : Mw O G w0 O' w m s) (h2 : Mq O' G w' m s2 rb) (hk : Kp O' w w') : Mw O G w0 O' w' m s2 := h.upd h2.mo hk (fun _ q => q) fun _ q => .inl q
end
end Go.Proofs.Qxb6500896aGreat
