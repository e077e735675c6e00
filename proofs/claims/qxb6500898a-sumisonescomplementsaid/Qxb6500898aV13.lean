import Derived.Test.Qxb6500898aV12
namespace Go.Proofs.Qxb6500898a
open Go.Sh Go.RowKit
set_option linter.unusedVariables false
set_option linter.unusedSimpArgs false

/-! ### the machine -/
structure Mst where
  work : List Int
  buf : List Int
  off : Nat
  failed : Bool
structure Ma (W w : World) (mb : Nat) (wob : Option Nat) (wv rv : Value) (s : Mst) : Prop where
  row : Row w mb 28 [wv, rv, I (s.off : Nat), .bool s.failed]
  wk : Sl u1 1 w 5 wob wv s.work
  wby : By s.work
  wl : s.work.length ≤ 100000000000
  rd : ∃ rob, Sl u1 1 w 5 rob rv s.buf ∧ (∀ b, wob = some b → rob ≠ some b) ∧ ∀ b, rob = some b → W.heap.size ≤ b
  rby : By s.buf
  rl : s.buf.length ≤ 100000000000
  off : s.off ≤ s.buf.length
  mz : W.heap.size ≤ mb
  wz : ∀ b, wob = some b → W.heap.size ≤ b
  kp : Kp (fun _ => False) W w
def rotL (xs : List Int) (q : Int) : List Int := if xs.length = 0 then xs else rotR xs ((8 * xs.length - q % (8 * xs.length)) % (8 * xs.length)).toNat
def rotRt (xs : List Int) (q : Int) : List Int := if xs.length = 0 then xs else rotR xs (q % (8 * xs.length)).toNat
/-- what a step does and answers -/
def StepR (s : Mst) (o : Op) (s' : Mst) (ok : Bool) (v : Int) (dat : List Int) : Prop :=
  if o.kind = 0 then s' = { s with work := o.data } ∧ ok = true ∧ v = 0 ∧ dat = []
  else if o.kind = 1 then s' = s ∧ ((Wid o.width ∧ FitsP s.work.length o.off o.width ∧ ok = true ∧ v = dec2 o.width o.little (s.work.drop o.off.toNat)) ∨ (¬ (Wid o.width ∧ FitsP s.work.length o.off o.width) ∧ ok = false ∧ v = 0)) ∧ dat = []
  else if o.kind = 2 then ((Wid o.width ∧ FitsP s.work.length o.off o.width ∧ ok = true ∧ s' = { s with work := s.work.take o.off.toNat ++ (enc o.width o.little o.val ++ (s.work.drop o.off.toNat).drop o.width.toNat) }) ∨ (¬ (Wid o.width ∧ FitsP s.work.length o.off o.width) ∧ ok = false ∧ s' = s)) ∧ v = 0 ∧ dat = []
  else if o.kind = 3 then ((Wid o.width ∧ ok = true ∧ s' = { s with work := s.work ++ enc o.width o.little o.val }) ∨ (¬ Wid o.width ∧ ok = false ∧ s' = s)) ∧ v = 0 ∧ dat = []
  else if o.kind = 4 then s' = { s with work := rotL s.work o.off } ∧ ok = true ∧ v = 0 ∧ dat = []
  else if o.kind = 5 then s' = { s with work := rotRt s.work o.off } ∧ ok = true ∧ v = 0 ∧ dat = []
  else if o.kind = 6 then ((s.work.length = o.data.length ∧ ok = true ∧ ∃ zs, By zs ∧ zs.length = s.work.length ∧ Res s.work.length (val s.work + val o.data) (val zs) ∧ s' = { s with work := zs }) ∨ (s.work.length ≠ o.data.length ∧ ok = false ∧ s' = s)) ∧ v = 0 ∧ dat = []
  else if o.kind = 7 then ((¬ (s.work.length = 0 ∨ o.data.length = 0 ∨ o.data.length % s.work.length ≠ 0) ∧ ok = true ∧ ∃ zs, By zs ∧ zs.length = s.work.length ∧ Res s.work.length (foldT o.data s.work.length) (val zs) ∧ s' = { s with work := zs }) ∨ ((s.work.length = 0 ∨ o.data.length = 0 ∨ o.data.length % s.work.length ≠ 0) ∧ ok = false ∧ s' = s)) ∧ v = 0 ∧ dat = []
  else if o.kind = 8 then s' = { s with work := xorP s.work o.data (min s.work.length o.data.length) } ∧ ok = true ∧ v = (min s.work.length o.data.length : Nat) ∧ dat = []
  else if o.kind = 9 then s' = s ∧ ok = decide (s.work = o.data) ∧ v = 0 ∧ dat = []
  else if o.kind = 10 then ((∃ r, D o.data = some r ∧ ok = true ∧ v = ((le2 (units r)).length : Nat) ∧ s' = { s with work := s.work ++ le2 (units r) }) ∨ (D o.data = none ∧ ok = false ∧ v = 0 ∧ s' = s)) ∧ dat = []
  else if o.kind = 11 then s' = { s with buf := s.work, off := 0, failed := false } ∧ ok = true ∧ v = 0 ∧ dat = []
  else if o.kind = 12 then ((¬ Wid o.width ∧ s' = s ∧ ok = false ∧ v = 0) ∨ (Wid o.width ∧ (s.failed = true ∨ ¬ FitsP s.buf.length s.off o.width) ∧ s' = { s with failed := true } ∧ ok = false ∧ v = 0) ∨ (Wid o.width ∧ s.failed = false ∧ FitsP s.buf.length s.off o.width ∧ s' = { s with off := s.off + o.width.toNat } ∧ ok = true ∧ v = dec2 o.width o.little ((s.buf.drop s.off).take o.width.toNat))) ∧ dat = []
  else if o.kind = 13 then (((s.failed = true ∨ ¬ FitsP s.buf.length s.off o.off) ∧ s' = { s with failed := true } ∧ ok = false ∧ dat = []) ∨ (s.failed = false ∧ FitsP s.buf.length s.off o.off ∧ s' = { s with off := s.off + o.off.toNat } ∧ ok = true ∧ dat = (s.buf.drop s.off).take o.off.toNat)) ∧ v = 0
  else if o.kind = 14 then (((s.failed = true ∨ ¬ FitsP s.buf.length s.off o.off) ∧ s' = { s with failed := true } ∧ ok = false) ∨ (s.failed = false ∧ FitsP s.buf.length s.off o.off ∧ s' = { s with off := s.off + o.off.toNat } ∧ ok = true)) ∧ v = 0 ∧ dat = []
  else s' = s ∧ ok = false ∧ v = 0 ∧ dat = []
def StepK (W w0 : World) (mb : Nat) (wob0 : Option Nat) (s : Mst) (o : Op) (K : Value → World → Prop) : Prop :=
  ∀ w' wob' wv' rv' s' ok v dv' dat, Ma W w' mb wob' wv' rv' s' → StepR s o s' ok v dat → s'.work.length ≤ s.work.length + 300000 → Bs w' dv' dat → Kp (fun k => k = mb ∨ wob0 = some k) w0 w' → (wob' = wob0 ∨ ∃ b, wob' = some b ∧ w0.heap.size ≤ b) → K (.agg #[.bool ok, .int .u64 v, dv']) w'
structure Sc (W w0 : World) (mb : Nat) (wob0 : Option Nat) (o : Op) (dv : Value) (t3 t4 : Nat) (w : World) (wob : Option Nat) (wv rv : Value) (s : Mst) : Prop where
  ma : Ma W w mb wob wv rv s
  kp : Kp (fun k => k = mb ∨ wob0 = some k) w0 w
  r3 : Row w t3 34 (opc dv o)
  r4 : Row w t4 38 [.bool false, .int .u64 0, .slice none 0 0]
  z3 : w0.heap.size ≤ t3
  z4 : w0.heap.size ≤ t4
  z0 : W.heap.size ≤ w0.heap.size
  wo : wob = wob0 ∨ ∃ b, wob = some b ∧ w0.heap.size ≤ b
section
variable {W w w' w0 : World} {v d t wv rv dv : Value} {ob wob wob0 : Option Nat} {mb t3 t4 : Nat} {xs ys zs : List Int} {K : Value → World → Prop} {s s' s0 : Mst} {o : Op} {S S' : Nat → Prop}
theorem Bq.re (h : Bq S w v xs) (hk : Kp S w w') (hs : ∀ b, b < w.heap.size → S' b → S b) : Bq S' w' v xs := by
  refine ⟨h.by_, ?_⟩
  rcases h.at_ with q | q | ⟨b, o, cap, h1, h2, h3, h4, h5, h6⟩
  · exact .inl q
  · exact .inr (.inl q)
  · exact .inr (.inr ⟨b, o, cap, h1, h2, h3, by have := hk.size; omega, fun q => h5 (hs b h4 q), h6.kp hk h5⟩)
theorem Ma.nw (h : Ma W w mb wob wv rv s) : ∀ b, wob = some b → b ≠ mb := fun b hb e => by
  obtain ⟨l, hr⟩ := h.wk.row hb
  exact row_ne hr h.row (by decide) e
/-- changes that spare the machine -/
theorem Ma.frame {C : Nat → Prop} (h : Ma W w mb wob wv rv s) (hk : Kp C w w') (h1 : ¬ C mb) (h2 : ∀ b l, Row w b 5 l → ¬ C b) (h3 : ∀ b, C b → W.heap.size ≤ b) : Ma W w' mb wob wv rv s := by
  obtain ⟨rob, s1, s2, s3⟩ := h.rd
  refine ⟨hk.row h.row h1, h.wk.kp hk (fun b hb => ?_), h.wby, h.wl, ⟨rob, s1.kp hk (fun b hb => ?_), s2, s3⟩, h.rby, h.rl, h.off, h.mz, h.wz, h.kp.then hk (fun b hb q => by have := h3 b q; omega)⟩
  · obtain ⟨l, hr⟩ := h.wk.row hb; exact h2 b l hr
  · obtain ⟨l, hr⟩ := s1.row hb; exact h2 b l hr
theorem Ma.kp' (h : Ma W w mb wob wv rv s) (hk : Kp (fun _ => False) w w') : Ma W w' mb wob wv rv s := h.frame hk (fun q => q) (fun _ _ _ q => q) (fun _ q => q.elim)
theorem Ma.rbs (h : Ma W w mb wob wv rv s) : Bs w rv s.buf := by
  obtain ⟨rob, s1, s2, s3⟩ := h.rd
  exact sl_bs s1 h.rby (by have := h.rl; omega)
theorem Ma.wbs (h : Ma W w mb wob wv rv s) : Bs w wv s.work := sl_bs h.wk h.wby (by have := h.wl; omega)
/-- the working string changes -/
theorem Ma.setW {wob' : Option Nat} {wv' : Value} {ys : List Int} (h : Ma W w mb wob wv rv s) (hk : Kp (fun k => k = mb ∨ wob = some k) w w') (hr : Row w' mb 28 [wv', rv, I (s.off : Nat), .bool s.failed]) (hs : Sl u1 1 w' 5 wob' wv' ys) (hb : By ys) (hl : ys.length ≤ 100000000000) (ho : wob' = wob ∨ ∃ b, wob' = some b ∧ w.heap.size ≤ b) : Ma W w' mb wob' wv' rv { s with work := ys } := by
  obtain ⟨rob, s1, s2, s3⟩ := h.rd
  have sz := h.kp.size
  refine ⟨hr, hs, hb, hl, ⟨rob, s1.kp hk (fun b hb q => ?_), fun b hb e => ?_, s3⟩, h.rby, h.rl, h.off, h.mz, fun b hb => ?_, h.kp.then hk (fun b hb q => ?_)⟩
  · rcases q with q | q
    · obtain ⟨l, hr'⟩ := s1.row hb; exact row_ne hr' h.row (by decide) q
    · exact s2 b q hb
  · rcases ho with e' | ⟨b', e', hb'⟩
    · rw [e'] at hb; exact s2 b hb e
    · rw [e'] at hb; cases hb
      obtain ⟨l, hr'⟩ := s1.row e
      have := hr'.lt
      omega
  · rcases ho with e' | ⟨b', e', hb'⟩
    · rw [e'] at hb; exact h.wz b hb
    · rw [e'] at hb; cases hb; omega
  · rcases q with q | q
    · have := h.mz; omega
    · have := h.wz b q; omega
/-- the reader changes -/
theorem Ma.setR {off' : Nat} {f' : Bool} (h : Ma W w mb wob wv rv s) (hk : Kp (fun k => k = mb) w w') (hr : Row w' mb 28 [wv, rv, I (off' : Nat), .bool f']) (ho : off' ≤ s.buf.length) : Ma W w' mb wob wv rv { s with off := off', failed := f' } := by
  obtain ⟨rob, s1, s2, s3⟩ := h.rd
  refine ⟨hr, h.wk.kp hk (fun b hb (e : b = mb) => ?_), h.wby, h.wl, ⟨rob, s1.kp hk (fun b hb (e : b = mb) => ?_), s2, s3⟩, h.rby, h.rl, ho, h.mz, h.wz, h.kp.then hk (fun b hb (q : b = mb) => by have := h.mz; omega)⟩
  · obtain ⟨l, hr'⟩ := h.wk.row hb; exact row_ne hr' h.row (by decide) e
  · obtain ⟨l, hr'⟩ := s1.row hb; exact row_ne hr' h.row (by decide) e
theorem Sc.kp' (R : Sc W w0 mb wob0 o dv t3 t4 w wob wv rv s) (hk : Kp (fun _ => False) w w') : Sc W w0 mb wob0 o dv t3 t4 w' wob wv rv s :=
  ⟨R.ma.kp' hk, R.kp.then hk (fun _ _ q => q.elim), hk.row' R.r3, hk.row' R.r4, R.z3, R.z4, R.z0, R.wo⟩
/-- the machine's memory changes -/
theorem Sc.step {wob' : Option Nat} {wv' rv' : Value} (R : Sc W w0 mb wob0 o dv t3 t4 w wob wv rv s) (hk : Kp (fun k => k = mb ∨ wob = some k) w w') (hm : Ma W w' mb wob' wv' rv' s') (ho : wob' = wob ∨ ∃ b, wob' = some b ∧ w.heap.size ≤ b) : Sc W w0 mb wob0 o dv t3 t4 w' wob' wv' rv' s' := by
  have sz := R.kp.size
  have nt : ∀ {b t l}, Row w b t l → t ≠ 28 → t ≠ 5 → ¬ (b = mb ∨ wob = some b) := fun hr h1 h2 q => by
    rcases q with q | q
    · exact row_ne hr R.ma.row h1 q
    · obtain ⟨l, hr'⟩ := R.ma.wk.row q; exact row_ne hr hr' h2 rfl
  refine ⟨hm, R.kp.then hk (fun b hb q => ?_), hk.row R.r3 (nt R.r3 (by decide) (by decide)), hk.row R.r4 (nt R.r4 (by decide) (by decide)), R.z3, R.z4, R.z0, ?_⟩
  · rcases q with q | q
    · exact .inl q
    · rcases R.wo with e | ⟨b', e, hb'⟩
      · rw [← e]; exact .inr q
      · rw [e] at q; cases q; omega
  · rcases ho with e | ⟨b', e, hb'⟩
    · rw [e]; exact R.wo
    · exact .inr ⟨b', e, by omega⟩
/-- the answer -/
theorem Sc.fin (R : Sc W w0 mb wob0 o dv t3 t4 w wob wv rv s') {ok : Bool} {x : Int} {dv' : Value} {dat : List Int} (hK : StepK W w0 mb wob0 s o K) (hst : StepR s o s' ok x dat) (hlen : s'.work.length ≤ s.work.length + 300000) (hd : ∀ w', Kp (fun k => k = t4) w w' → Bs w' dv' dat) (hsc : scal dv' = true) :
    stn 3 (Pt t4 0) (.agg #[.bool ok, .int .u64 x, dv']) (fun w => ldn 3 (Pt t4 0) (fun r0 _ => K r0 w) w) w := by
  refine stn_r (cs := [.bool ok, .int .u64 x, dv']) R.r4 rfl (show 0 + 3 ≤ 3 by decide) (by simp [scal] at hsc ⊢; exact hsc) fun w1 r1 hk1 hz1 => ?_
  refine ldn_r r1 (show 0 + 3 ≤ _ by simp) ?_
  exact hK w1 wob wv rv s' ok x dv' dat (R.ma.frame hk1 (fun (e : mb = t4) => row_ne R.ma.row R.r4 (by decide) e) (fun b l hr (e : b = t4) => row_ne hr R.r4 (by decide) e) (fun b (e : b = t4) => by have := R.z0; have := R.z4; omega)) hst hlen (hd w1 hk1) (R.kp.then hk1 (fun b hb (q : b = _) => by have := R.z4; omega)) R.wo
theorem Sc.nil (R : Sc W w0 mb wob0 o dv t3 t4 w wob wv rv s') {ok : Bool} {x : Int} (hK : StepK W w0 mb wob0 s o K) (hst : StepR s o s' ok x []) (hlen : s'.work.length ≤ s.work.length + 300000) :
    stn 3 (Pt t4 0) (.agg #[.bool ok, .int .u64 x, .slice none 0 0]) (fun w => ldn 3 (Pt t4 0) (fun r0 _ => K r0 w) w) w := R.fin hK hst hlen (fun _ _ => ⟨by simp, .inl ⟨rfl, rfl⟩⟩) rfl
theorem enc_le {width : Int} {little : Bool} {z : Int} (h : Wid width) : (enc width little z).length ≤ 8 := by
  have := enc_len (z := z) (little := little) h
  rcases h with rfl | rfl | rfl <;> omega
theorem res_kind {n : Int} {k : Int} (h : n = k) : (n == k) = true := by rw [h]; exact beq_self_eq_true _
end
end Go.Proofs.Qxb6500898a
