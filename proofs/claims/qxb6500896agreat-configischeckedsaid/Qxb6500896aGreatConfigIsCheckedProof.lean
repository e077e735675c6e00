import Derived.Test.Qxb6500896aGreatRows
import Derived.Test.Qxb6500896aGreatK21
import Derived.Test.Qxb6500896aGreatJf
import Derived.ProofKit
import Derived.OpenShut
import Derived.ShutString
namespace Go.Proofs.Qxb6500896aGreat.configIsChecked
open Go.ChangeShapes Go.WideShapes Go.ChangeAt Go.RowKit
open Go.ChangeMaps (open_string shut_string)
set_option linter.unusedVariables false

theorem own : ownKnob Tryz.prog.godebug = none := by kernel_rfl

set_option maxRecDepth 100000 in
theorem lifted (os : Os) (started : os.Started) (H : Type) (enc : TypeId × Value → H) :
    ReturnsInHanded {} Tryz.checked os 16 .any (Rows.configIsCheckedSpec.pre6 enc Tryz.prog Tryz.f16 Rows.configIsCheckedRow.domain false) (Rows.configIsCheckedSpec.post enc Tryz.prog Tryz.f16 false true false false) := by
  refine returnsInHanded_of_change (C := Tryz.checked) own started (by kernel_rfl) Tryz.func16
    (ChangeSpec.witness6 (enc := enc) (C := Tryz.checked) false ⟨#[], #[], []⟩ 8 (by kernel_rfl) (by kernel_rfl) (by kernel_rfl) (by kernel_rfl)) ?_
  intro W base args ds gs before hval0 hW hcnd _
  have hval : ∀ (j : Nat) t v, Tryz.f16.params[j]? = some t → args[j]? = some v → Value.okWide Tryz.prog W .any base t v := hval0
  have hW' := hW
  obtain ⟨p, q, hA0, hV, rfl, hfz, hnd⟩ := hW
  have hA : DataW.TrodAll enc Tryz.prog W 0 (fun _ => true) true Tryz.f16.params.toList args.toList ds p := hA0
  rw [Tryz.params16] at hA hval
  obtain ⟨rfl, rfl, rfl⟩ := trodAll_none hA
  obtain ⟨rfl, rfl⟩ := trodVars_none hV
  clear hA0 hval0
  simp only [List.append_nil] at hW'
  refine (config_walk W).mono fun e W' ⟨he, bel⟩ => ?_
  subst he
  exact ⟨_, rfl, _, _, _, [], _, [], hW', trodAll_mk1 (shut_bool Tryz.underlying4 _), trodAll_mk0, rfl, bel.frame _, fun h => by cases h⟩

theorem f10 : Tryz.prog.inPlace 16 = Rows.configIsCheckedRow.inPlace := by kernel_rfl
theorem f11 : Tryz.prog.unfollowed 16 = Rows.configIsCheckedRow.unfollowed := by kernel_rfl
theorem f12 : Tryz.prog.recurses 16 = Rows.configIsCheckedRow.recurses := by kernel_rfl
theorem f13 : Tryz.prog.varsNamed 16 = Rows.configIsCheckedRow.named := by kernel_rfl
theorem light : Go.Sh.jfLight Tryz.prog Tryz.f16 Rows.configIsCheckedSpec Rows.configIsCheckedRow = true := by kernel_rfl
theorem named : Tryz.prog.funcNamed Rows.configIsCheckedRow.func = some 16 := by kernel_rfl
theorem inst : Tryz.f16.isInstance Tryz.prog Rows.configIsCheckedRow.origin Rows.configIsCheckedRow.targs := of_decide_eq_true (by kernel_rfl)
theorem wrap : Tryz.f16.isWrapper Tryz.prog Rows.configIsCheckedRow.wrapper Rows.configIsCheckedRow.mainSum := by
  unfold Func.isWrapper; first | (rw [if_pos (by decide +kernel)]; kernel_rfl) | (rw [if_neg (by decide +kernel)]; exact ⟨rfl, rfl⟩)
theorem over : Rows.configIsCheckedRow.holds Tryz.pinned (OpenSpec.ofChange Rows.configIsCheckedSpec) :=
  OpenClaim.holds_of_wide 16 Tryz.f16 rfl rfl rfl rfl rfl rfl rfl ⟨rfl, rfl, rfl, rfl, rfl⟩ rfl rfl rfl rfl rfl named Tryz.func16
    (Go.Sh.jf_of jLaid jMaps jStops jKnobs f10 f11 f12 f13 jKeys jHeard jEnter jLift jMake light) inst wrap
    (fun os started H enc _ => lifted os started H enc)

/-- the statement -/
theorem proved : Rows.ConfigIsCheckedSaid :=
  over
end Go.Proofs.Qxb6500896aGreat.configIsChecked
