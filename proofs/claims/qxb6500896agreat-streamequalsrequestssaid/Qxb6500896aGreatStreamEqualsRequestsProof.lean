import Derived.Test.Qxb6500896aGreatRows
import Derived.Test.Qxb6500896aGreatM46
import Derived.Test.Qxb6500896aGreatJf
import Derived.ProofKit
import Derived.OpenShut
import Derived.ShutString
import Derived.ChangeOld
import Derived.Below
import Derived.SizedLaws
namespace Go.Proofs.Qxb6500896aGreat.streamEqualsRequests
open Go.ChangeShapes Go.WideShapes Go.ChangeAt Go.RowKit
open Go.ChangeMaps (open_string shut_string)
set_option linter.unusedVariables false

theorem own : ownKnob Tryz.prog.godebug = none := by kernel_rfl

set_option maxRecDepth 100000 in
theorem lifted (os : Os) (started : os.Started) (H : Type) (enc : TypeId × Value → H) :
    ReturnsInHanded {} Tryz.checked os 11 .any (Rows.streamEqualsRequestsSpec.pre6 enc Tryz.prog Tryz.f11 Rows.streamEqualsRequestsRow.domain false) (Rows.streamEqualsRequestsSpec.post enc Tryz.prog Tryz.f11 false true false false) := by
  refine returnsInHanded_of_change_sized (C := Tryz.checked) own started (by kernel_rfl) Tryz.func11
    (ChangeSpec.witness6 (enc := enc) (C := Tryz.checked) false ⟨#[], #[.slice none 0 0], []⟩ 8 (by kernel_rfl) (by kernel_rfl) (by kernel_rfl) (by kernel_rfl)) ?_
  intro W base args ds gs before hval0 hW hcnd hsz0 _
  have hval : ∀ (j : Nat) t v, Tryz.f11.params[j]? = some t → args[j]? = some v → Value.okWide Tryz.prog W .any base t v := hval0
  have hW' := hW
  obtain ⟨p, q, hA0, hV, rfl, hfz, hnd⟩ := hW
  have hA : DataW.TrodAll enc Tryz.prog W 0 (fun _ => true) true Tryz.f11.params.toList args.toList ds p := hA0
  rw [Tryz.params11] at hA hval
  obtain ⟨v0, vs0, d0, ds0, p0, q0, hargs, rfl, rfl, h0, r0⟩ := trodAll_cons hA
  obtain ⟨rfl, rfl, rfl⟩ := trodAll_nil r0
  obtain rfl : args = #[v0] := by cases args; simp_all
  obtain ⟨rfl, rfl⟩ := trodVars_none hV
  have sl0 := okWide_slice uOps (hval 0 22 v0 rfl rfl)
  have k0 := h0
  have lt0 : ∀ x ∈ p0, x.block < W.heap.size := by obtain ⟨m, hm⟩ := k0; exact DataW.trod_lt m _ _ _ hm
  have hwt : ∀ n ∈ d0.weights Tryz.prog 22, n ≤ reachBytes := by
    intro n hn
    have hsz : (DataW.weightsEach Tryz.prog (Tryz.f11.params.toList ++ Rows.streamEqualsRequestsSpec.plain.varTypes Tryz.prog) ([d0] ++ [])).all (· ≤ reachBytes) = true := hsz0
    rw [Tryz.params11] at hsz
    have := List.all_eq_true.1 hsz n (Go.Sh.mem_wEach (i := 0) (t := 22) (d := d0) rfl rfl hn)
    simpa using this
  obtain ⟨xs, hs⟩ : ∃ xs, Scr W v0 xs := by
    obtain ⟨fuel, hf⟩ := h0
    exact scr_of (Go.Sh.tz_of_trod _ _ _ _ hf hwt) sl0
  clear hA0 hval0
  refine (stream_walk hs).mono fun e W' ⟨r, he, hr, bel⟩ => ?_
  subst hr
  subst he
  exact ⟨_, rfl, _, _, _, [], _, [], hW', trodAll_mk1 (shut_bool Tryz.underlying4 _), (trodAll_cons_mk (Below.trod jLaid (by kernel_rfl) (of_decide_eq_true (by kernel_rfl)) k0 bel lt0) trodAll_mk0), rfl, bel.frame _, fun h => by cases h⟩

theorem f10 : Tryz.prog.inPlace 11 = Rows.streamEqualsRequestsRow.inPlace := by kernel_rfl
theorem f11 : Tryz.prog.unfollowed 11 = Rows.streamEqualsRequestsRow.unfollowed := by kernel_rfl
theorem f12 : Tryz.prog.recurses 11 = Rows.streamEqualsRequestsRow.recurses := by kernel_rfl
theorem f13 : Tryz.prog.varsNamed 11 = Rows.streamEqualsRequestsRow.named := by kernel_rfl
theorem light : Go.Sh.jfLight Tryz.prog Tryz.f11 Rows.streamEqualsRequestsSpec Rows.streamEqualsRequestsRow = true := by kernel_rfl
theorem named : Tryz.prog.funcNamed Rows.streamEqualsRequestsRow.func = some 11 := by kernel_rfl
theorem inst : Tryz.f11.isInstance Tryz.prog Rows.streamEqualsRequestsRow.origin Rows.streamEqualsRequestsRow.targs := of_decide_eq_true (by kernel_rfl)
theorem wrap : Tryz.f11.isWrapper Tryz.prog Rows.streamEqualsRequestsRow.wrapper Rows.streamEqualsRequestsRow.mainSum := by
  unfold Func.isWrapper; first | (rw [if_pos (by decide +kernel)]; kernel_rfl) | (rw [if_neg (by decide +kernel)]; exact ⟨rfl, rfl⟩)
theorem over : Rows.streamEqualsRequestsRow.holds Tryz.pinned (OpenSpec.ofChange Rows.streamEqualsRequestsSpec) :=
  OpenClaim.holds_of_wide 11 Tryz.f11 rfl rfl rfl rfl rfl rfl rfl ⟨rfl, rfl, rfl, rfl, rfl⟩ rfl rfl rfl rfl rfl named Tryz.func11
    (Go.Sh.jf_of jLaid jMaps jStops jKnobs f10 f11 f12 f13 jKeys jHeard jEnter jLift jMake light) inst wrap
    (fun os started H enc _ => lifted os started H enc)

/-- the statement -/
theorem proved : Rows.StreamEqualsRequestsSaid :=
  over
end Go.Proofs.Qxb6500896aGreat.streamEqualsRequests
