/-
  The glue for generated texts: propositions under 'Tr' are not looked into by the elaborator.
-/
import Derived.Test.Qxb6500898aShMix2
namespace Go.Sh
set_option linter.unusedVariables false

theorem tr_simple {P : Program} {codes : List Code} {N N' : (Nat → Value) → World → Prop} {X X' : Nat → (Nat → Value) → World → Prop} {R : (Nat → Value) → World → Prop} {s : Nat → Value} {w : World} {p q : Prop}
    (hN : ∀ s w, N s w → Tr (N' s w)) (hX : ∀ i s w, X i s w → Tr (X' i s w)) (e : denL P codes N X R s w = p) (d : q = denL P codes N' X' R s w) (h : p) : Tr q :=
  ⟨d ▸ denL_mono codes (fun s w h => (hN s w h).out) (fun i s w h => (hX i s w h).out) s w (e ▸ h)⟩

theorem tr_draw {P : Program} {ops : Array Oper} {ms cs : List Nat} {N N' : (Nat → Value) → World → Prop} {s : Nat → Value} {w : World} {p q : Prop} (hchk : chk ops cs = true) (hms : chkM ops ms = true)
    (hN : ∀ s w, N s w → Tr (N' s w))
    (e : dC P ops (drw w) cs (fun s' => dF P ops (lastB ms (hard ops cs)) (drw w) N ops.size (mrk ops.size cs) s' (drw w)) s = p)
    (d : q = dAny P ops N' ops.size (Array.replicate ops.size false) s (drw w)) (h : p) : Tr q :=
  ⟨d ▸ dAny_mono (fun s w h => (hN s w h).out) _ _ _ _ (dAny_mix hchk hms (e ▸ h))⟩

theorem tr_cond {v : Value} {a a' b b' p q : Prop} (ha : a → Tr a') (hb : b → Tr b') (e : ifb v a b = p) (d : q = ifb v a' b') (h : p) : Tr q :=
  ⟨d ▸ ifb_mono (fun h => (ha h).out) (fun h => (hb h).out) (e ▸ h)⟩

theorem tr_loop {G : ((Nat → Value) → World → Prop) → (Nat → Value) → World → Prop} {F : (List Value → World → Prop) → List Value → World → Prop} {sel : (Nat → Value) → List Value} {s : Nat → Value} {w : World} {p q : Prop}
    (hF : ∀ B s w, F B (sel s) w → Tr (G (fun s' w' => B (sel s') w') s w)) (e : LoopL F (sel s) w = p) (d : q = LoopP G s w) (h : p) : Tr q :=
  ⟨d ▸ loop_of_L sel (fun B s w h => (hF B s w h).out) (e ▸ h)⟩

theorem tr_bif {a a' b b' : (Nat → Value) → World → Prop} {c : Bool} (ha : ∀ s w, a s w → Tr (a' s w)) (hb : ∀ s w, b s w → Tr (b' s w)) : ∀ s w, (bif c then a else b) s w → Tr ((bif c then a' else b') s w) := by
  cases c
  · exact hb
  · exact ha
theorem tr_id {N : (Nat → Value) → World → Prop} : ∀ s w, N s w → Tr (N s w) := fun _ _ h => ⟨h⟩

theorem calls_of_tr {P : Program} {f : FuncId} {fn : Func} {c : Code} {args : Array Value} {w : World} {K : Value → World → Prop} {q : Prop}
    (hf : P.funcs[f]? = some fn) (hb : fn.body = some c) (hm : P.follows .mixedOrders = true) (hn : args.size ≤ fn.ntmps) (hok : okCode P fn.ntmps c = true)
    (top : den P c (fun s w => retv P s fn.results.toList (fun vs => K (pack vs) w) w) (fun _ _ _ => False) (fun s w => retv P s fn.results.toList (fun vs => K (pack vs) w) w) (st0 args) w = q) (h : Tr q) :
    cl P f args K w := calls_of_den hf hb hm hn hok (top ▸ h.out)

end Go.Sh
