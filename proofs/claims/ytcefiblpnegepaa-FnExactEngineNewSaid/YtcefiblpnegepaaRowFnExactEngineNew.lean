/- The program's EngineNew returns what the reference's returns, for all arguments. -/
import Derived.Test.YtcefiblpnegepaaRows
import Derived.Test.YtcefiblpnegepaaLawFnExactEngineNew
import Derived.Test.YtcefiblpnegepaaOpen
import Derived.Test.YtcefiblpnegepaaOrd
import Derived.WalkKit
import Derived.ProofKit
import Derived.OpenShut
import Derived.ShutString
import Derived.ChangeOld
import Derived.Below
import Derived.SizedLaws
namespace Go.Proofs.Ytcefiblpnegepaa.fnExactEngineNew
open Go.ChangeShapes Go.WideShapes Go.ChangeAt Go.RowKit Go.Proofs.Ytcefiblpnegepaa.T Go.Proofs.YtcefiblpnegepaaW.PrintWords
open Go.ChangeMaps (open_string shut_string)
set_option linter.unusedVariables false
theorem own : ownKnob Try.prog.godebug = none := by kernel_rfl
theorem laidOut : laidOutB Try.prog = true := by kernel_rfl
set_option maxRecDepth 100000 in
theorem lifted (os : Os) (started : os.Started) (H : Type) (enc : TypeId × Value → H) :
    ReturnsInHanded {} Try.checked os 8 .any (Rows.fnExactEngineNewSpec.pre6 enc Try.prog Try.f8 Rows.fnExactEngineNewRow.domain false) (Rows.fnExactEngineNewSpec.post enc Try.prog Try.f8 false true false false) := by
  refine returnsInHanded_of_change_sized (C := Try.checked) own started (by kernel_rfl) Try.func8
    (ChangeSpec.witness6 (enc := enc) (C := Try.checked) false ⟨#[], #[], []⟩ 8 (by kernel_rfl) (by kernel_rfl) (by kernel_rfl) (by kernel_rfl)) ?_
  intro W base args ds gs before hval0 hW hcnd hsz0 _
  have hval : ∀ (j : Nat) t v, Try.f8.params[j]? = some t → args[j]? = some v → Value.okWide Try.prog W .any base t v := hval0
  have hW' := hW
  obtain ⟨p, q, hA0, hV, rfl, hfz, hnd⟩ := hW
  have hA : DataW.TrodAll enc Try.prog W 0 (fun _ => true) true Try.f8.params.toList args.toList ds p := hA0
  rw [Try.params8] at hA hval
  obtain ⟨ha_, rfl, rfl⟩ := trodAll_nil hA
  obtain rfl : args = #[] := by cases args; simp_all
  obtain ⟨rfl, rfl⟩ := trodVars_none hV
  clear hA0 hval0 hsz0
  refine (Go.Proofs.Ytcefiblpnegepaa.Pr.FnExactEngineNew_walk W).mono fun e W' ⟨he, bel⟩ => ?_
  subst he
  exact ⟨_, rfl, _, _, _, [], _, [], hW', trodAll_mk1 (shut_bool Try.underlying4 _), trodAll_mk0, rfl, bel.frame _, fun h => by cases h⟩
set_option maxHeartbeats 2000000 in
theorem closed : joinedFacts Try.prog 8 Try.f8 Rows.fnExactEngineNewSpec Rows.fnExactEngineNewRow = true := by
  unfold joinedFacts
  repeat (with_reducible refine and_t ?_ ?_)
  all_goals first | (with_reducible exact mayEnter_t) | (rw [liftsFinal_eq]; kernel_rfl) | (rw [make_eq]; kernel_rfl) | as_aux_lemma => kernel_rfl
theorem over : Rows.fnExactEngineNewRow.holds Try.pinned (OpenSpec.ofChange Rows.fnExactEngineNewSpec) :=
  OpenClaim.holds_of_wide 8 Try.f8 rfl rfl rfl rfl rfl rfl rfl ⟨rfl, rfl, rfl, rfl, rfl⟩ rfl rfl rfl rfl rfl (by as_aux_lemma => kernel_rfl) Try.func8 closed
    (of_decide_eq_true (by as_aux_lemma => kernel_rfl)) (by as_aux_lemma => unfold Func.isWrapper; first | (rw [if_pos (by decide +kernel)]; kernel_rfl) | (rw [if_neg (by decide +kernel)]; exact ⟨rfl, rfl⟩))
    (fun os started H enc _ => lifted os started H enc)
theorem proved : Rows.FnExactEngineNewSaid := over
#print axioms proved
end Go.Proofs.Ytcefiblpnegepaa.fnExactEngineNew
namespace Go.Proofs.Ytcefiblpnegepaa
/-- The row, under a short name, for the claim. -/
theorem fnExactEngineNew_holds : Rows.FnExactEngineNewSaid := fnExactEngineNew.proved
end Go.Proofs.Ytcefiblpnegepaa
