import Derived.Test.Qxb6500896aGreatDoorRows
import Derived.Test.Qxb6500896aGreatDoorCards
import Derived.Test.Qxb6500896aGreatDoorTie
import Derived.Test.Qxb6500896aGreatDoorLaid
import Derived.Test.Qxb6500896aGreatDoorCodM
import Derived.Test.Qxb6500896aGreatDoorJf
import Derived.ProofKit
import Derived.OpenShut
import Derived.ShutString
import Derived.ChangeOld
import Derived.Below
import Derived.SizedLaws
import Derived.ChangeVars
import Derived.SevenTiedAt
namespace Go.Proofs.Qxb6500896aGreatDoor.codecsRoundTrip
open Go.ChangeShapes Go.WideShapes Go.ChangeAt Go.RowKit
open Go.ChangeMaps (open_string shut_string)
set_option linter.unusedVariables false

set_option maxRecDepth 100000 in
theorem lifted (os : Os) (started : os.Started) (H : Type) (enc : TypeId × Value → H) :
    ReturnsInHanded {} Tryz.checked os 5 .any (fun w args => (Rows.codecsRoundTripSpec.pre enc Tryz.prog Tryz.f5 [] false w args ∧ laidMetH Tryz.prog laidCS w) ∧ sizedMet enc Tryz.prog Tryz.f5 (OpenSpec.ofChange Rows.codecsRoundTripSpec) false w args)
      (Rows.codecsRoundTripSpec.post enc Tryz.prog Tryz.f5 false true false false) := by
  refine returnsInHanded_of_change_and (C := Tryz.checked) (X := fun w _ => laidMetH Tryz.prog laidCS w) (fun _ _ _ hh h => h.of_heap hh) laid_own started (by kernel_rfl) Tryz.func5
    (ChangeSpec.witness_at (enc := enc) (C := Tryz.checked) (os := os) (X := fun w _ => laidMetH Tryz.prog laidCS w) false (laidWorldP Tryz.prog os) #[.slice none 0 0] 8 rfl (by kernel_rfl) (by kernel_rfl) (by kernel_rfl) (by kernel_rfl) (by kernel_rfl) (laidWorld_met2 os _)) ?_
  intro W base args ds gs before hval0 hW _ hsz0 hL _
  have hval : ∀ (j : Nat) t v, Tryz.f5.params[j]? = some t → args[j]? = some v → Value.okWide Tryz.prog W .any base t v := hval0
  have hW' := hW
  obtain ⟨p, q, hA0, hV, rfl, hfz, hnd⟩ := hW
  have hA : DataW.TrodAll enc Tryz.prog W 0 (fun _ => true) true Tryz.f5.params.toList args.toList ds p := hA0
  rw [Tryz.params5] at hA hval
  obtain ⟨v0, vs0, d0, ds0, p0, q0, hargs, rfl, rfl, h0, r0⟩ := trodAll_cons hA
  obtain ⟨rfl, rfl, rfl⟩ := trodAll_nil r0
  obtain rfl : args = #[v0] := by cases args; simp_all
  obtain ⟨rfl, rfl⟩ := trodVars_none hV
  have sl0 := okWide_slice uOps (hval 0 22 v0 rfl rfl)
  have k0 := h0
  have lt0 : ∀ x ∈ p0, x.block < W.heap.size := by obtain ⟨m, hm⟩ := k0; exact DataW.trod_lt m _ _ _ hm
  have hwt : ∀ n ∈ d0.weights Tryz.prog 22, n ≤ reachBytes := by
    intro n hn
    have hsz : (DataW.weightsEach Tryz.prog (Tryz.f5.params.toList ++ Rows.codecsRoundTripSpec.plain.varTypes Tryz.prog) ([d0] ++ [])).all (· ≤ reachBytes) = true := hsz0
    rw [Tryz.params5] at hsz
    have := List.all_eq_true.1 hsz n (Go.Sh.mem_wEach (i := 0) (t := 22) (d := d0) rfl rfl hn)
    simpa using this
  obtain ⟨xs, hs⟩ : ∃ xs, Scr W v0 xs := by
    obtain ⟨fuel, hf⟩ := h0
    exact scr_of (Go.Sh.tz_of_trod _ _ _ _ hf hwt) sl0
  clear hA0 hval0
  refine (codecs_walk2 hL hs).mono fun e W' ⟨r, he, hr, bel⟩ => ?_
  subst hr
  subst he
  exact ⟨_, rfl, _, _, _, [], _, [], hW', trodAll_mk1 (shut_bool Tryz.underlying4 _), (trodAll_cons_mk (Below.trod jLaid (by kernel_rfl) (of_decide_eq_true (by kernel_rfl)) k0 bel lt0) trodAll_mk0), rfl, bel.frame _, fun h => by cases h⟩

theorem f10 : Tryz.prog.inPlace 5 = Rows.codecsRoundTripRow.inPlace := by kernel_rfl
theorem f11 : Tryz.prog.unfollowed 5 = Rows.codecsRoundTripRow.unfollowed := by kernel_rfl
theorem f12 : Tryz.prog.recurses 5 = Rows.codecsRoundTripRow.recurses := by kernel_rfl
theorem f13 : Tryz.prog.varsNamed 5 = Rows.codecsRoundTripRow.named := by kernel_rfl
theorem light : Go.Sh.jfLight Tryz.prog Tryz.f5 Rows.codecsRoundTripSpec Rows.codecsRoundTripRow = true := by kernel_rfl
theorem named : Tryz.prog.funcNamed Rows.codecsRoundTripRow.func = some 5 := by kernel_rfl
theorem inst : Tryz.f5.isInstance Tryz.prog Rows.codecsRoundTripRow.origin Rows.codecsRoundTripRow.targs := of_decide_eq_true (by kernel_rfl)
theorem wrap : Tryz.f5.isWrapper Tryz.prog Rows.codecsRoundTripRow.wrapper Rows.codecsRoundTripRow.mainSum := by
  unfold Func.isWrapper; first | (rw [if_pos (by decide +kernel)]; kernel_rfl) | (rw [if_neg (by decide +kernel)]; exact ⟨rfl, rfl⟩)
theorem over : Rows.codecsRoundTripRow.holds Tryz.pinned (OpenSpec.ofChange Rows.codecsRoundTripSpec) :=
  OpenClaim.holds_of_wide 5 Tryz.f5 rfl rfl rfl rfl rfl rfl rfl ⟨rfl, rfl, rfl, rfl, rfl⟩ rfl rfl rfl rfl rfl named Tryz.func5
    (Go.Sh.jf_of jLaid jMaps jStops jKnobs f10 f11 f12 f13 jKeys jHeard jEnter jLift jMake light) inst wrap
    (fun os started H enc _ => lifted os started H enc)

/-- the statement -/
theorem proved : Rows.CodecsRoundTripCardSaid :=
  Claim7.holds_tied_plain_at .later [] [.data, .data] true (true, "753ef42d3e99ff9f78c7c17f35d2d483b24bde330eea853b85b8609307a22823") true
    over (fun _ h => by cases h) (by kernel_rfl) (fun _ h => by cases h) codecsRoundTrip_row_tie rfl ⟨rfl, rfl⟩ (by kernel_rfl) rfl
    (fun f fn hf hfn => by
      obtain rfl : f = 5 := Option.some.inj ((show Tryz.prog.funcNamed Rows.codecsRoundTripRow.func = some 5 by kernel_rfl).symm.trans hf) |>.symm
      obtain rfl : fn = Tryz.f5 := (Option.some.inj (Tryz.func5.symm.trans hfn)).symm
      exact ⟨by kernel_rfl, fun j t ht => by
        rw [Tryz.params5] at ht
        have h22 : t = 22 := by
          rcases j with _ | j
          · simpa using ht.symm
          · simp at ht
        subst h22
        exact (show Tryz.prog.wantsStandIn 22 = false by kernel_rfl)⟩)
    (by kernel_rfl)
end Go.Proofs.Qxb6500896aGreatDoor.codecsRoundTrip
