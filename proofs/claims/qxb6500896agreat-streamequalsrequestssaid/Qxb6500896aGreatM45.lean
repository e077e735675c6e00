import Derived.Test.Qxb6500896aGreatM44
namespace Go.Proofs.Qxb6500896aGreat
open Go.Sh Go.RowKit
set_option linter.unusedVariables false
set_option linter.unusedSimpArgs false

section
variable {O O' G F S V V' N M : Nat → Prop} {W w w' w0 w1 : World} {r e m c pos b' : Nat} {v v1 v2 qv x pv bv' iv ov : Value} {l : List Value} {K : Value → World → Prop} {X : Value → Value → World → Prop} {p ins out d R : List Int} {Bs : List (List Int)} {ob oi oo : Option Nat} {σ : Sg} {J : Jr} {skip : Int} {br : Bool} {xs : List Op}
/-- the law at work: the stream so far, its replies, the connection, the model at rest -/
structure Stm (W w : World) (r e m c : Nat) (O G : Nat → Prop) (σ : Sg) (J : Jr) (oi oo ob : Option Nat) (iv ov bv' : Value) (ins out d R : List Int) (Bs : List (List Int)) (skip : Int) (br : Bool) : Prop where
  z : Lz W (fun b => b = c ∨ ob = some b ∨ oi = some b ∨ oo = some b ∨ O b ∨ G b) w r e σ J
  jl : Jlm 48 72 1200 J
  mo : Mo O G w m (sg0 park).ms
  cn : Cn w c e ob bv' d skip br
  si : Sl bC 1 w 5 oi iv ins
  so : Sl bC 1 w 5 oo ov out
  n1 : ∀ b, oi = some b → ob ≠ some b ∧ oo ≠ some b
  n2 : ∀ b, oo = some b → ob ≠ some b
  nm : ∀ b, b = c ∨ ob = some b ∨ oi = some b ∨ oo = some b → ¬ O b ∧ ¬ G b
  bi : By ins
  bd : By d
  rn : Rn Bs (sg0 park).ms out σ.ms
  sq : σ.seq ≤ ((Bs.length : Nat) : Int)
  fr : (br = false ∧ Fr ins Bs R false ∧ VR R d skip ∧ Wt d skip) ∨ (br = true ∧ Fr ins Bs [] true ∧ d = [])
theorem Stm.emp (s : Stm W w r e m c O G σ J oi oo ob iv ov bv' ins out d R Bs skip br) (hk : Kp Emp w w') : Stm W w' r e m c O G σ J oi oo ob iv ov bv' ins out d R Bs skip br :=
  ⟨s.z.emp hk, s.jl, s.mo.kp' hk, s.cn.kp hk (fun q => q) fun _ _ q => q, s.si.kp' hk, s.so.kp' hk, s.n1, s.n2, s.nm, s.bi, s.bd, s.rn, s.sq, s.fr⟩
theorem Stm.len (s : Stm W w r e m c O G σ J oi oo ob iv ov bv' ins out d R Bs skip br) : Bs.length ≤ ins.length + 1 := by
  rcases s.fr with ⟨_, h, _⟩ | ⟨_, h, _⟩
  · exact h.len
  · exact h.len
theorem Stm.dl (s : Stm W w r e m c O G σ J oi oo ob iv ov bv' ins out d R Bs skip br) : d.length ≤ 181 := by
  rcases s.fr with ⟨_, _, _, h | h⟩ | ⟨_, _, h⟩
  · exact h.2
  · rw [h]; simp
  · rw [h]; simp
theorem Stm.end_ (s : Stm W w r e m c O G σ J oi oo ob iv ov bv' ins out d R Bs skip br) (hX : X iv ov w) :
    cl Tryz.prog 55 #[P c 0] (fun t50 w => boI .gtr t50 (I 181) (fun t51 w => ifb t51 (K (.bool false) w) (X iv ov w)) w) w := by
  have := s.dl
  refine pend_ok s.cn ?_
  have e0 : decide ((181 : Int) < ((d.length : Nat) : Int)) = false := decide_eq_false (by omega)
  simp only [e_gtr, e0, e_iff]
  exact hX
set_option maxHeartbeats 4000000 in
/-- one more piece -/
theorem Stm.piece (s : Stm W w r e m c O G σ J oi oo ob iv ov bv' ins out d R Bs skip br) (hp : Ar bC 1 F w pv p) (hF : ∀ b, F b → b < w.heap.size ∧ ob ≠ some b ∧ oi ≠ some b) (hpb : By p) (hpl : p.length ≤ 65545) (hil : ins.length ≤ 5000000000)
    (hX : ∀ w' σ' J' oi' oo' ob' iv' ov' bv'' out' d' R' Bs' skip' br', Stm W w' r e m c O G σ' J' oi' oo' ob' iv' ov' bv'' (ins ++ p) out' d' R' Bs' skip' br' → X iv' ov' w') :
    apq 5 [(.int .u8 0)] 1 iv pv (fun t43 w => cl Tryz.prog 54 #[P c 0, pv] (fun t47 w => apq 5 [(.int .u8 0)] 1 ov t47 (fun t48 w => cl Tryz.prog 55 #[P c 0] (fun t50 w => boI .gtr t50 (I 181) (fun t51 w => ifb t51 (K (.bool false) w) (X t43 t48 w)) w) w) w) w) w := by
  have hbl := s.len
  have hrl := s.rn.len
  have hsq := s.sq
  have hlt := s.z.lt
  have hge := s.z.ge
  have hmlt := s.mo.lt
  have hcl := s.cn.row.lt
  refine Sl.app3 bC_len rfl (fun _ _ => rfl) s.si (hp.rds bC_len) (by omega) (by omega) fun w1 v1 oi1 si1 hk1 ho1 => ?_
  have hz1 := hk1.size
  have hoic : ∀ b, oi = some b → b ≠ c := fun b q q2 => s.si.ne s.cn.row (by decide) (q2 ▸ q)
  have hooc : ∀ b, oo = some b → b ≠ c := fun b q q2 => s.so.ne s.cn.row (by decide) (q2 ▸ q)
  have hoi1 : ∀ b, oi1 = some b → (oi = some b ∨ w.heap.size ≤ b) := fun b q => by
    rcases ho1 with h1 | ⟨b', h1, h2⟩
    · exact .inl (h1 ▸ q)
    · rw [h1] at q
      have := Option.some.inj q
      exact .inr (by omega)
  have hoi1l : ∀ b, oi1 = some b → b < w1.heap.size := fun b q => by rw [q] at si1; exact si1.lt
  have z1 := s.z.gro hk1 fun b q => .inr (.inr (.inl q))
  have cn1 := s.cn.kp hk1 (fun q => hoic c q rfl) fun b q q2 => (s.n1 b q2).1 q
  have so1 := s.so.kp hk1 fun b q q2 => (s.n1 b q2).2 q
  have mo1 := s.mo.kp hk1 fun b q => s.nm b (.inr (.inr (.inl q)))
  have hp1 := hp.kp hk1 fun b q q2 => (hF b q).2.2 q2
  have hO : ∀ b, w.heap.size ≤ b → ¬ O b ∧ ¬ G b := fun b q => ⟨fun r => by have := hmlt b (.inl r); omega, fun r => by have := hmlt b (.inr r); omega⟩
  have nc1 : ∀ b, oi1 = some b → b ≠ c := fun b q q2 => by
    rcases hoi1 b q with h | h
    · exact hoic b h q2
    · omega
  have nb1 : ∀ b, oi1 = some b → ob ≠ some b := fun b q q2 => by
    rcases hoi1 b q with h | h
    · exact (s.n1 b h).1 q2
    · have := hlt b (.inr (.inl q2)); omega
  have no1 : ∀ b, oi1 = some b → oo ≠ some b := fun b q q2 => by
    rcases hoi1 b q with h | h
    · exact (s.n1 b h).2 q2
    · have := hlt b (.inr (.inr (.inr (.inl q2)))); omega
  have nm1 : ∀ b, oi1 = some b → ¬ O b ∧ ¬ G b := fun b q => by
    rcases hoi1 b q with h | h
    · exact s.nm b (.inr (.inr (.inl h)))
    · exact hO b h
  rcases hb : br with _ | _
  · subst hb
    rcases s.fr with ⟨_, f1, f2, f3⟩ | ⟨f, _⟩
    · have hdl := s.dl
      refine feed_ok z1 s.jl (by omega) cn1 (.inl (.inl rfl)) (fun b q => .inl (.inr (.inl q))) hp1 (fun b q => ⟨by have := (hF b q).1; omega, (hF b q).2.1⟩) s.bd hpb (by omega) f2 ?_
      intro w2 fv of S N Bd R' d' ob' bv'' skip' br' σ' J' o z2 hN jl2 sq2 cn2 hob' sf hof hk2 hS hW bd' rn2 hBd fr2
      have hz2 := hk2.size
      have si2 := si1.kp hk2 fun b q => hS b (by
        rcases hoi1 b q with h | h
        · exact .inl (.inr (.inr (.inl h)))
        · exact .inr ⟨h, hoi1l b q⟩) (nc1 b q) (nb1 b q)
      have so2 := so1.kp hk2 fun b q => hS b (.inl (.inr (.inr (.inr (.inl q))))) (hooc b q) (s.n2 b q)
      have mo2 := mo1.kp hk2 fun b q => ⟨fun r => hS b (.inl (.inr (.inr (.inr (.inr (.inl r)))))) (fun q2 => (s.nm b (.inl q2)).1 r) (fun q2 => (s.nm b (.inr (.inl q2))).1 r) q, fun r => hS b (.inl (.inr (.inr (.inr (.inr (.inr r)))))) (fun q2 => (s.nm b (.inl q2)).2 r) (fun q2 => (s.nm b (.inr (.inl q2))).2 r) q⟩
      have hol := rn2.len
      refine Sl.app3 bC_len rfl (fun _ _ => rfl) so2 (sf.rds bC_len) (by omega) (by omega) fun w3 v3 oo3 so3 hk3 ho3 => ?_
      have hz3 := hk3.size
      have hoo3 : ∀ b, oo3 = some b → (oo = some b ∨ w2.heap.size ≤ b) := fun b q => by
        rcases ho3 with h1 | ⟨b', h1, h2⟩
        · exact .inl (h1 ▸ q)
        · rw [h1] at q
          have := Option.some.inj q
          exact .inr (by omega)
      have hoo3l : ∀ b, oo3 = some b → b < w3.heap.size := fun b q => by rw [q] at so3; exact so3.lt
      have hobl : ∀ b, ob' = some b → b < w2.heap.size := fun b q => by
        have := cn2.sl
        rw [q] at this
        exact this.lt
      have z3 := z2.gro hk3 fun b q => .inl (.inl (.inr (.inr (.inr (.inl q)))))
      have nbo : ∀ b, oo = some b → ob' ≠ some b := fun b q q2 => by
        rcases hob' b q2 with h | h
        · exact s.n2 b q h
        · have := (hN b h).1; have := hlt b (.inr (.inr (.inr (.inl q)))); omega
      have st : Stm W w3 r e m c O G σ' J' oi1 oo3 ob' v1 v3 bv'' (ins ++ p) (out ++ o) d' R' (Bs ++ Bd) skip' br' := by
        refine ⟨z3.sub fun b q => ?_, jl2, mo2.kp hk3 fun b q => s.nm b (.inr (.inr (.inr q))), cn2.kp hk3 (fun q => hooc c q rfl) fun b q q2 => nbo b q2 q, si2.kp hk3 fun b q q2 => no1 b q q2, so3, fun b q => ⟨fun q2 => ?_, fun q2 => ?_⟩, fun b q q2 => ?_, fun b q => ?_, s.bi.app hpb, bd', s.rn.app rn2, by rw [List.length_append]; omega, ?_⟩
        · rcases q with q | q | q | q | q | q
          · exact .inl (.inl (.inl (.inl q)))
          · rcases hob' b q with h | h
            · exact .inl (.inl (.inl (.inr (.inl h))))
            · exact .inl (.inr h)
          · rcases hoi1 b q with h | h
            · exact .inl (.inl (.inl (.inr (.inr (.inl h)))))
            · exact .inl (.inl (.inr ⟨h, hoi1l b q⟩))
          · rcases hoo3 b q with h | h
            · exact .inl (.inl (.inl (.inr (.inr (.inr (.inl h))))))
            · exact .inr ⟨h, hoo3l b q⟩
          · exact .inl (.inl (.inl (.inr (.inr (.inr (.inr (.inl q)))))))
          · exact .inl (.inl (.inl (.inr (.inr (.inr (.inr (.inr q)))))))
        · rcases hob' b q2 with h | h
          · exact nb1 b q h
          · have := (hN b h).1; have := hoi1l b q; omega
        · rcases hoo3 b q2 with h | h
          · exact no1 b q h
          · have := hoi1l b q; omega
        · rcases hoo3 b q with h | h
          · exact nbo b h q2
          · have := hobl b q2; omega
        · rcases q with q | q | q | q
          · exact s.nm b (.inl q)
          · rcases hob' b q with h | h
            · exact s.nm b (.inr (.inl h))
            · exact hO b (by have := (hN b h).1; omega)
          · exact nm1 b q
          · rcases hoo3 b q with h | h
            · exact s.nm b (.inr (.inr (.inr h)))
            · exact hO b (by omega)
        · rcases fr2 with ⟨g0, g1, g2, g3⟩ | ⟨g0, g1, g2⟩
          · exact .inl ⟨g0, f1.app rfl g1, g2, g3⟩
          · exact .inr ⟨g0, f1.app rfl g1, g2⟩
      exact st.end_ (hX _ _ _ _ _ _ _ _ _ _ _ _ _ _ _ st)
    · cases f
  · subst hb
    rcases s.fr with ⟨f, _⟩ | ⟨_, f1, f2⟩
    · cases f
    · apply c54
      unfold s54_p5
      refine nk0 (fdp (ld1_r (v := .bool true) cn1.row rfl ?_))
      simp only [e_ift]
      refine Sl.app3 bC_len rfl (fun _ _ => rfl) so1 (Ar.rds (F := Emp) (xs := []) bC_len Ar.nil) (by simp only [List.length_nil]; omega) (by simp only [List.length_nil]; omega) fun w3 v3 oo3 so3 hk3 ho3 => ?_
      rw [List.append_nil] at so3
      have hz3 := hk3.size
      have hoo3 : ∀ b, oo3 = some b → (oo = some b ∨ w1.heap.size ≤ b) := fun b q => by
        rcases ho3 with h1 | ⟨b', h1, h2⟩
        · exact .inl (h1 ▸ q)
        · rw [h1] at q
          have := Option.some.inj q
          exact .inr (by omega)
      have hoo3l : ∀ b, oo3 = some b → b < w3.heap.size := fun b q => by rw [q] at so3; exact so3.lt
      have z3 := z1.gro hk3 fun b q => .inl (.inr (.inr (.inr (.inl q))))
      have st : Stm W w3 r e m c O G σ J oi1 oo3 ob v1 v3 bv' (ins ++ p) out d R Bs skip true := by
        refine ⟨z3.sub fun b q => ?_, s.jl, mo1.kp hk3 fun b q => s.nm b (.inr (.inr (.inr q))), cn1.kp hk3 (fun q => hooc c q rfl) fun b q q2 => s.n2 b q2 q, si1.kp hk3 fun b q q2 => no1 b q q2, so3, fun b q => ⟨nb1 b q, fun q2 => ?_⟩, fun b q q2 => ?_, fun b q => ?_, s.bi.app hpb, s.bd, s.rn, s.sq, .inr ⟨rfl, f1.lost rfl, f2⟩⟩
        · rcases q with q | q | q | q | q | q
          · exact .inl (.inl (.inl q))
          · exact .inl (.inl (.inr (.inl q)))
          · rcases hoi1 b q with h | h
            · exact .inl (.inl (.inr (.inr (.inl h))))
            · exact .inl (.inr ⟨h, hoi1l b q⟩)
          · rcases hoo3 b q with h | h
            · exact .inl (.inl (.inr (.inr (.inr (.inl h)))))
            · exact .inr ⟨h, hoo3l b q⟩
          · exact .inl (.inl (.inr (.inr (.inr (.inr (.inl q))))))
          · exact .inl (.inl (.inr (.inr (.inr (.inr (.inr q))))))
        · rcases hoo3 b q2 with h | h
          · exact no1 b q h
          · have := hoi1l b q; omega
        · rcases hoo3 b q with h | h
          · exact s.n2 b h q2
          · have := hlt b (.inr (.inl q2)); omega
        · rcases q with q | q | q | q
          · exact s.nm b (.inl q)
          · exact s.nm b (.inr (.inl q))
          · exact nm1 b q
          · rcases hoo3 b q with h | h
            · exact s.nm b (.inr (.inr (.inr h)))
            · exact hO b (by omega)
      exact st.end_ (hX _ _ _ _ _ _ _ _ _ _ _ _ _ _ _ st)
end
end Go.Proofs.Qxb6500896aGreat
