import Derived.Test.Qxb6500893aDoorA30
namespace Go.Proofs.Qxb6500893aDoor
open Go.Sh Go.RowKit
set_option linter.unusedVariables false
set_option linter.unusedSimpArgs false

/-! ### the model says what the words say -/
structure Mq (ws : Nat → Nat) (sh : Shp) (F : List Nat) (p : Mp) : Prop where
  bw : p.bw = sh.bw
  n : p.n = sh.n
  pk : p.pk = ws (sh.ctl + 3)
  fl : p.fl = ws (sh.ctl + 4)
  nd : p.us.Nodup
  mem : ∀ x : Int, x ∈ p.us ↔ ∃ j : Nat, x = (j : Int) ∧ j < sh.n ∧ j ∉ F
  len : p.us.length + F.length = sh.n
structure Mt (ws : Nat → Nat) (T : Tb) (F : Nat → List Nat) (M : Md) : Prop where
  room : M.room + T.next = T.lim
  len : M.ps.length = T.ps.length
  at_ : ∀ i (hi : i < T.ps.length) (hm : i < M.ps.length), Mq ws T.ps[i] (F i) M.ps[i]
section
variable {ws ws' : Nat → Nat} {sh : Shp} {F F' : List Nat} {p p' : Mp} {i j : Nat} {T : Tb} {G : Nat → List Nat} {M M' : Md}
theorem Mq.frame (h : Mq ws sh F p) (e3 : ws' (sh.ctl + 3) = ws (sh.ctl + 3)) (e4 : ws' (sh.ctl + 4) = ws (sh.ctl + 4)) : Mq ws' sh F p :=
  ⟨h.bw, h.n, by rw [e3]; exact h.pk, by rw [e4]; exact h.fl, h.nd, h.mem, h.len⟩
theorem Mq.iff (h : Mq ws sh F p) (hj : j < sh.n) : ((j : Nat) : Int) ∈ p.us ↔ j ∉ F := by
  rw [h.mem]
  constructor
  · rintro ⟨k, e, _, hk⟩
    have : k = j := by omega
    subst this; exact hk
  · intro q; exact ⟨j, rfl, hj, q⟩
theorem Mq.exh (h : Mq ws sh F p) : Mq (upd ws (sh.ctl + 4) (ws (sh.ctl + 4) + 1)) sh F { p with fl := p.fl + 1 } :=
  ⟨h.bw, h.n, by rw [updO (by omega)]; exact h.pk, by rw [updN]; show p.fl + 1 = _; rw [h.fl], h.nd, h.mem, h.len⟩
theorem Mq.alloc (h : Mq ws sh (j :: F) p) (hP : PoolOk ws sh (j :: F)) (e4 : ws' (sh.ctl + 4) = ws (sh.ctl + 4)) (e3 : ws' (sh.ctl + 3) = (if ws (sh.ctl + 3) < ws (sh.ctl + 2) + 1 then ws (sh.ctl + 2) + 1 else ws (sh.ctl + 3))) :
    Mq ws' sh F { p with us := p.us ++ [((j : Nat) : Int)], pk := if p.pk < p.us.length + 1 then p.us.length + 1 else p.pk } := by
  have hj := hP.lt j (List.mem_cons_self ..)
  have hnd := List.nodup_cons.1 hP.nd
  have hu := hP.used
  have hl := h.len
  rw [List.length_cons] at hu hl
  have hul : p.us.length = ws (sh.ctl + 2) := by omega
  have hnj : ((j : Nat) : Int) ∉ p.us := fun q => (h.iff hj).1 q (List.mem_cons_self ..)
  refine ⟨h.bw, h.n, ?_, by rw [e4]; exact h.fl, ?_, fun x => ?_, ?_⟩
  · show (if p.pk < p.us.length + 1 then p.us.length + 1 else p.pk) = _
    rw [e3, hul, h.pk]
  · show (p.us ++ [_]).Nodup
    rw [List.nodup_append]
    refine ⟨h.nd, by simp, fun a ha b hb e => ?_⟩
    rw [List.mem_singleton] at hb
    exact hnj (by rw [← hb, ← e]; exact ha)
  · show x ∈ p.us ++ [_] ↔ _
    rw [List.mem_append, List.mem_singleton, h.mem]
    constructor
    · rintro (⟨k, e, hk, hn⟩ | e)
      · exact ⟨k, e, hk, fun q => hn (List.mem_cons_of_mem _ q)⟩
      · exact ⟨j, e, hj, hnd.1⟩
    · rintro ⟨k, e, hk, hn⟩
      by_cases q : k = j
      · subst q; exact .inr e
      · exact .inl ⟨k, e, hk, fun z => by rcases List.mem_cons.1 z with z | z; exact q z; exact hn z⟩
  · show (p.us ++ [_]).length + F.length = sh.n
    rw [List.length_append, List.length_singleton]; omega
theorem Mq.free (h : Mq ws sh F p) (hP : PoolOk ws sh F) (hj : j < sh.n) (hn : j ∉ F) (e4 : ws' (sh.ctl + 4) = ws (sh.ctl + 4)) (e3 : ws' (sh.ctl + 3) = ws (sh.ctl + 3)) :
    Mq ws' sh (j :: F) { p with us := p.us.erase ((j : Nat) : Int) } := by
  have hm := (h.iff hj).2 hn
  have hl := h.len
  have hlen := List.length_erase_of_mem hm
  have hpos := List.length_pos_of_mem hm
  refine ⟨h.bw, h.n, by rw [e3]; exact h.pk, by rw [e4]; exact h.fl, h.nd.erase _, fun x => ?_, ?_⟩
  · show x ∈ p.us.erase _ ↔ _
    rw [h.nd.mem_erase_iff, h.mem]
    constructor
    · rintro ⟨hne, k, e, hk, hnk⟩
      refine ⟨k, e, hk, fun z => ?_⟩
      rcases List.mem_cons.1 z with z | z
      · exact hne (by rw [e, z])
      · exact hnk z
    · rintro ⟨k, e, hk, hnk⟩
      refine ⟨fun z => hnk ?_, k, e, hk, fun z => hnk (List.mem_cons_of_mem _ z)⟩
      have : k = j := by omega
      rw [this]; exact List.mem_cons_self ..
  · show (p.us.erase _).length + (j :: F).length = sh.n
    rw [hlen, List.length_cons]; omega
theorem Mt.set (ok : T.Ok) (h : Mt ws T G M) (hi : i < T.ps.length) (hm : i < M.ps.length) (hq : Mq ws' T.ps[i] F' p') (hout : ∀ a, (a < T.ps[i].ctl ∨ T.ps[i].fin ≤ a) → ws' a = ws a) : Mt ws' T (upd G i F') { M with ps := M.ps.set i p' } := by
  refine ⟨h.room, by show (M.ps.set i p').length = _; rw [List.length_set]; exact h.len, fun k hk hkm => ?_⟩
  have hkm' : k < M.ps.length := by simpa using hkm
  show Mq ws' T.ps[k] (upd G i F' k) ((M.ps.set i p')[k]'hkm)
  by_cases e : i = k
  · subst e; rw [List.getElem_set_self, updN]; exact hq
  · rw [List.getElem_set_ne e, updO (Ne.symm e)]
    have o1 := (ok.sh _ (List.getElem_mem hk)).1
    have := fst_ge o1
    have := o1.fin
    have := apart ok hi hk e
    exact (h.at_ k hk hkm').frame (hout _ (by omega)) (hout _ (by omega))
theorem Mt.create (ok : T.Ok) (h : Mt ws T G M) {bw n pb mp : Nat} (hok : (crSh T bw n).Ok) {A : Ar} (hA : A.ws = ws) (e1 : M'.room + (crSh T bw n).fin = T.lim) (e2 : M'.ps = M.ps ++ [⟨bw, n, [], 0, 0, pb, mp⟩]) :
    Mt (fmtF A (crSh T bw n)).ws (crT T (crSh T bw n)) (upd G T.ps.length (List.range n)) M' := by
  obtain ⟨hp, hout, f2, f3, f4, _⟩ := fmt_ok (A := A) hok
  have hctl : (crSh T bw n).ctl = T.next := rfl
  have hlen : (crT T (crSh T bw n)).ps.length = T.ps.length + 1 := by simp [crT]
  refine ⟨e1, by rw [e2, hlen, List.length_append, List.length_singleton, h.len], fun k hk hm => ?_⟩
  by_cases e : k = T.ps.length
  · subst e
    have ea : (crT T (crSh T bw n)).ps[T.ps.length] = crSh T bw n := by simp [crT]
    have eb : M'.ps[T.ps.length] = ⟨bw, n, [], 0, 0, pb, mp⟩ := by
      have : M'.ps[T.ps.length]? = some ⟨bw, n, [], 0, 0, pb, mp⟩ := by rw [e2, ← h.len]; simp
      rw [List.getElem?_eq_getElem hm] at this
      exact Option.some.inj this
    rw [updN, ea, eb]
    refine ⟨rfl, rfl, f3.symm, f4.symm, List.nodup_nil, fun x => ⟨fun q => (by cases q), fun ⟨j, _, hj, hn⟩ => absurd (List.mem_range.2 hj) hn⟩, ?_⟩
    show [].length + (List.range n).length = n
    rw [List.length_range]; exact Nat.zero_add _
  · have hk' : k < T.ps.length := by omega
    have hm' : k < M.ps.length := by rw [h.len]; exact hk'
    have ea : (crT T (crSh T bw n)).ps[k] = T.ps[k] := by simp [crT, List.getElem_append_left hk']
    have eb : M'.ps[k] = M.ps[k] := by
      have : M'.ps[k]? = some M.ps[k] := by rw [e2, List.getElem?_append_left hm', List.getElem?_eq_getElem hm']
      rw [List.getElem?_eq_getElem hm] at this
      exact Option.some.inj this
    rw [updO e, ea, eb]
    have o := ok.sh _ (List.getElem_mem hk')
    have := fst_ge o.1
    have := o.1.fin
    have o3 := o.2.2
    have same : ∀ a, a < T.next → (fmtF A (crSh T bw n)).ws a = ws a := fun a ha => by rw [hout a (.inl (by rw [hctl]; exact ha)), hA]
    exact (h.at_ k hk' hm').frame (same _ (by omega)) (same _ (by omega))
end

/-! ### the player's world with its model -/
structure LM (W w : World) (m : Wm) (s : Ws) (M : Md) : Prop where
  st : LSt W w m s
  md : m.md = P M.mb 0
  mt : MAt w M
  own : ∀ b, OwnM M b → W.heap.size ≤ b
section
variable {W w w' w0 : World} {m m' m0 : Wm} {s s' : Ws} {M M' M0 : Md} {C : Nat → Prop} {b t4 t6 : Nat} {c : Call} {l6 : List Value}
theorem LM.kp (h : LM W w m s M) (hk : Kp C w w') (hC : ∀ b, C b → W.heap.size ≤ b ∧ ¬ OwnW m s.L b ∧ ¬ OwnM M b) : LM W w' m s M :=
  ⟨h.st.kp hk (fun b q => ⟨(hC b q).1, (hC b q).2.1⟩), h.md, h.mt.kp hk (fun b q c => (hC b c).2.2 q), h.own⟩
theorem LM.kp' (h : LM W w m s M) (hk : Kp (fun _ => False) w w') : LM W w' m s M := h.kp hk (fun _ q => q.elim)
theorem LM.tmp (h : LM W w m s M) {t : TypeId} {l : List Value} (hr : Row w b t l) (hb : W.heap.size ≤ b) (hk : Kp (fun k => k = b) w w') (ht : [50, 114, 71, 31, 106, 112, 66].contains t = false) (h1 : t ≠ 54) (h2 : t ≠ 57) (h3 : t ≠ 60) : LM W w' m s M :=
  h.kp hk (fun k (e : k = b) => ⟨by omega, by rw [e]; exact h.st.wd.ntag hr ht, by rw [e]; exact h.mt.ntag hr h1 h2 h3⟩)
theorem LM.real (h : LM W w m s M) (h' : LSt W w' m' s') (st : StW w w' m s.L m' s'.L) : LM W w' m' s' M :=
  ⟨h', st.md.trans h.md, h.mt.kp st.kp (fun b hb q => h.st.wd.nM h.mt hb q), h.own⟩
theorem LM.mod (h : LM W w m s M) (hk : Kp (OwnM M) w w') (hM : MAt w' M') (ho : ∀ b, OwnM M' b → OwnM M b ∨ w.heap.size ≤ b) (hmb : M'.mb = M.mb) : LM W w' m s M' := by
  refine ⟨h.st.kp hk (fun b q => ⟨h.own b q, h.st.wd.nM h.mt q⟩), by rw [hmb]; exact h.md, hM, fun b hb => ?_⟩
  have := h.st.bel.size
  rcases ho b hb with q | q
  · exact h.own b q
  · omega
theorem LSt.setMd (h : LSt W w m s) {v : Value} (hk : Kp (fun b => b = m.wdb) w w') (r : Row w' m.wdb 50 [P m.ab 0, P m.tb 0, v, m.lv]) : LSt W w' { m with md := v } s := by
  obtain ⟨junk, hj, hp⟩ := h.wd.tbl.pools
  have nt : ∀ {b t l}, Row w b t l → t ≠ 50 → ¬ (b = m.wdb) := fun hr ht q => row_ne hr h.wd.row ht q
  refine ⟨⟨r, h.wd.arn.frame hk (fun b hb (q : b = _) => ?_), h.wd.tbl.kp hk (nt h.wd.tbl.row (by decide)) (nt hp (by decide)), h.wd.ok, h.wd.live.kp hk (fun b hb => ?_) (fun x hx => nt (h.wd.live.rw x hx) (by decide)), h.wd.nwb⟩, h.own, h.bel.trans (hk.below h.bel.size fun k hk' (q : k = _) => ?_)⟩
  · subst q; exact h.wd.arn.ntag h.wd.row (by decide) (by decide) (by decide) hb
  · obtain ⟨l, hr⟩ := h.wd.live.sl.row hb; exact nt hr (by decide)
  · have := h.own k (.inl q); omega

/-- inside the model's call -/
structure Mc (W w0 : World) (m0 : Wm) (M0 : Md) (s : Ws) (c : Call) (t4 t6 : Nat) (l6 : List Value) (w : World) (m : Wm) (M : Md) : Prop where
  lm : LM W w m s M
  kp : Kp (fun b => OwnM M0 b ∨ b = m0.wdb) w0 w
  own : ∀ b, OwnM M b → OwnM M0 b ∨ w0.heap.size ≤ b
  r4 : Row w t4 33 (cac c)
  r6 : Row w t6 41 l6
  z4 : w0.heap.size ≤ t4
  z6 : w0.heap.size ≤ t6
  wdb : m.wdb = m0.wdb
  z : W.heap.size ≤ w0.heap.size
theorem Mc.row (R : Mc W w0 m0 M0 s c t4 t6 l6 w m M) : Row w m0.wdb 50 [P m.ab 0, P m.tb 0, P M.mb 0, m.lv] := by
  rw [← R.wdb, ← R.lm.md]; exact R.lm.st.wd.row
theorem Mc.kp' (R : Mc W w0 m0 M0 s c t4 t6 l6 w m M) (hk : Kp (fun _ => False) w w') : Mc W w0 m0 M0 s c t4 t6 l6 w' m M :=
  ⟨R.lm.kp' hk, R.kp.then hk (fun _ _ q => q.elim), R.own, hk.row' R.r4, hk.row' R.r6, R.z4, R.z6, R.wdb, R.z⟩
theorem Mc.out (R : Mc W w0 m0 M0 s c t4 t6 l6 w m M) {l' : List Value} (hk : Kp (fun b => b = t6) w w') (hr : Row w' t6 41 l') : Mc W w0 m0 M0 s c t4 t6 l' w' m M :=
  ⟨R.lm.tmp R.r6 (by have := R.z; have := R.z6; omega) hk (by decide) (by decide) (by decide) (by decide), R.kp.then hk (fun b hb (q : b = _) => by have := R.z6; omega), R.own, hk.row R.r4 (fun (q : _ = _) => row_ne R.r4 R.r6 (by decide) q), hr, R.z4, R.z6, R.wdb, R.z⟩
theorem Mc.mod (R : Mc W w0 m0 M0 s c t4 t6 l6 w m M) (hk : Kp (OwnM M) w w') (hM : MAt w' M') (ho : ∀ b, OwnM M' b → OwnM M b ∨ w.heap.size ≤ b) (hmb : M'.mb = M.mb) : Mc W w0 m0 M0 s c t4 t6 l6 w' m M' := by
  have sz := R.kp.size
  refine ⟨R.lm.mod hk hM ho hmb, R.kp.then hk (fun b hb q => ?_), fun b hb => ?_, hk.row R.r4 (R.lm.mt.ntag R.r4 (by decide) (by decide) (by decide)), hk.row R.r6 (R.lm.mt.ntag R.r6 (by decide) (by decide) (by decide)), R.z4, R.z6, R.wdb, R.z⟩
  · rcases R.own b q with q | q
    · exact .inl q
    · omega
  · rcases ho b hb with q | q
    · exact R.own b q
    · exact .inr (by omega)
/-- one pool of the model changes -/
theorem Mc.set (R : Mc W w0 m0 M0 s c t4 t6 l6 w m M) {i : Nat} {p' : Mp} (hi : i < M.ps.length) (hM : MAt w' { M with ps := M.ps.set i p' }) (hk : Kp C w w') (hC : ∀ b, C b → b = M.ps[i].pb ∨ b = M.ps[i].mp) (e1 : p'.pb = M.ps[i].pb) (e2 : p'.mp = M.ps[i].mp) :
    Mc W w0 m0 M0 s c t4 t6 l6 w' m { M with ps := M.ps.set i p' } := by
  refine R.mod (hk.mono fun b _ q => ?_) hM (fun b hb => ?_) rfl
  · rcases hC b q with q | q
    · exact .inr (.inr (.inl ⟨_, List.getElem_mem hi, q.symm⟩))
    · exact .inr (.inr (.inr ⟨_, List.getElem_mem hi, q.symm⟩))
  · rcases hb with q | q | ⟨p, hp, q⟩ | ⟨p, hp, q⟩
    · exact .inl (.inl q)
    · exact .inl (.inr (.inl q))
    · rcases List.mem_or_eq_of_mem_set hp with z | z
      · exact .inl (.inr (.inr (.inl ⟨p, z, q⟩)))
      · exact .inl (.inr (.inr (.inl ⟨_, List.getElem_mem hi, by rw [← e1, ← z]; exact q⟩)))
    · rcases List.mem_or_eq_of_mem_set hp with z | z
      · exact .inl (.inr (.inr (.inr ⟨p, z, q⟩)))
      · exact .inl (.inr (.inr (.inr ⟨_, List.getElem_mem hi, by rw [← e2, ← z]; exact q⟩)))
variable {k : World → Prop} {id id' x co : Int} {at_ a : Nat} {q y : Q4}
theorem Mc.code (R : Mc W w0 m0 M0 s c t4 t6 (outV id' id at_ q 0 nilS) w m M) (hk : ∀ w', Mc W w0 m0 M0 s c t4 t6 (outV x id at_ q 0 nilS) w' m M → k w') : st1 (P t6 0) (I x) k w :=
  st1_r R.r6 (show 0 < 9 by decide) rfl fun w1 r1 hk1 hz1 => hk w1 (R.out hk1 r1)
theorem Mc.pid (R : Mc W w0 m0 M0 s c t4 t6 (outV co id at_ q 0 nilS) w m M) (hk : ∀ w', Mc W w0 m0 M0 s c t4 t6 (outV co x at_ q 0 nilS) w' m M → k w') : st1 (P t6 1) (I x) k w :=
  st1_r R.r6 (show 1 < 9 by decide) rfl fun w1 r1 hk1 hz1 => hk w1 (R.out hk1 r1)
theorem Mc.at' (R : Mc W w0 m0 M0 s c t4 t6 (outV co id at_ q 0 nilS) w m M) (hk : ∀ w', Mc W w0 m0 M0 s c t4 t6 (outV co id a q 0 nilS) w' m M → k w') : st1 (P t6 2) (U32 a) k w :=
  st1_r R.r6 (show 2 < 9 by decide) rfl fun w1 r1 hk1 hz1 => hk w1 (R.out hk1 r1)
theorem Mc.fig (R : Mc W w0 m0 M0 s c t4 t6 (outV co id at_ q 0 nilS) w m M) (hk : ∀ w', Mc W w0 m0 M0 s c t4 t6 (outV co id at_ y 0 nilS) w' m M → k w') : stn 4 (P t6 3) (.agg (stV y).toArray) k w :=
  stn_r R.r6 rfl (show 3 + 4 ≤ 9 by decide) rfl fun w1 r1 hk1 hz1 => hk w1 (R.out hk1 r1)
end
end Go.Proofs.Qxb6500893aDoor
