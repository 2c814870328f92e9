import Derived.Test.YtcefiblpnegepaaRows
import Derived.WalkKit
import Derived.ProofKit
import Derived.OpenShut
import Derived.ShutString
import Derived.ChangeOld
import Derived.Below
import Derived.SizedLaws
import Derived.Test.YtcefiblpnegepaaQBByq
import Derived.Test.YtcefiblpnegepaaQBLChainP
import Derived.Test.YtcefiblpnegepaaQBOrd
import Derived.Test.YtcefiblpnegepaaQBWkOther
namespace Go.Proofs.Ytcefiblpnegepaa.fnLogOther
open Go.ChangeShapes Go.WideShapes Go.ChangeAt Go.RowKit Go.Proofs.Ytcefiblpnegepaa.T Go.PW
open Go.ChangeMaps (open_string shut_string)
set_option linter.unusedVariables false
theorem own : ownKnob Try.prog.godebug = none := by kernel_rfl
theorem laidOut : laidOutB Try.prog = true := by kernel_rfl
set_option maxRecDepth 100000 in
theorem lifted (os : Os) (started : os.Started) (H : Type) (enc : TypeId × Value → H) :
    ReturnsInHanded {} Try.checked os 22 .any (Rows.fnLogOtherSpec.pre6 enc Try.prog Try.f22 Rows.fnLogOtherRow.domain false) (Rows.fnLogOtherSpec.post enc Try.prog Try.f22 false true false false) := by
  refine returnsInHanded_of_change_sized (C := Try.checked) own started zb13 Try.func22
    (ChangeSpec.witness6 (enc := enc) (C := Try.checked) false ⟨#[], #[.slice none 0 0, .slice none 0 0], []⟩ 8 zb13 zb13 zb13 zb13) ?_
  intro W base args ds gs before hval0 hW hcnd hsz0 _; have hval : ∀ (j : Nat) t v, Try.f22.params[j]? = some t → args[j]? = some v → Value.okWide Try.prog W .any base t v := hval0; have hW' := hW; obtain ⟨p, q, hA0, hV, rfl, hfz, hnd⟩ := hW; have hA : DataW.TrodAll enc Try.prog W 0 (fun _ => true) true Try.f22.params.toList args.toList ds p := hA0; rw [Try.params22] at hA hval; obtain ⟨v0, vs0, d0, ds0, p0, q0, hargs, rfl, rfl, h0, r0⟩ := trodAll_cons hA; obtain ⟨v1, vs1, d1, ds1, p1, q1, rfl, rfl, rfl, h1, r1⟩ := trodAll_cons r0; obtain ⟨rfl, rfl, rfl⟩ := trodAll_nil r1
  obtain rfl : args = #[v0, v1] := by cases args; simp_all
  obtain ⟨rfl, rfl⟩ := trodVars_none hV; have k0 := h0
  have lt0 : ∀ x ∈ p0, x.block < W.heap.size := by obtain ⟨m, hm⟩ := k0; exact DataW.trod_lt m _ _ _ hm
  obtain ⟨A0, l0, c0, rfl, hl0, g0, gb0⟩ := MC Try.underlying22 Try.underlying5 zb13 (hval 0 22 v0 rfl rfl) h0; have k1 := h1
  have lt1 : ∀ x ∈ p1, x.block < W.heap.size := by obtain ⟨m, hm⟩ := k1; exact DataW.trod_lt m _ _ _ hm
  obtain ⟨A1, l1, c1, rfl, hl1, g1, gb1⟩ := MC Try.underlying22 Try.underlying5 zb13 (hval 1 22 v1 rfl rfl) h1; clear hA0 hval0 hsz0
  refine (Rv A0 c0 l0 A1 c1 l1 W hl0 g0 gb0 hl1 g1 gb1).mono fun e W' ⟨he, bel⟩ => ?_
  subst he; exact ⟨_, rfl, _, _, _, [], _, [], hW', trodAll_mk1 (shut_bool Try.underlying4 _), (trodAll_cons_mk (Below.trod laidOut zb13 (of_decide_eq_true zb13) k0 bel lt0) (trodAll_cons_mk (Below.trod laidOut zb13 (of_decide_eq_true zb13) k1 bel lt1) trodAll_mk0)), rfl, bel.frame _, fun h => by cases h⟩
set_option maxHeartbeats 2000000 in
theorem closed : joinedFacts Try.prog 22 Try.f22 Rows.fnLogOtherSpec Rows.fnLogOtherRow = true := by
  unfold joinedFacts
  repeat (with_reducible refine XgX ?_ ?_)
  all_goals first | (with_reducible exact P9) | (rw [Ny]; kernel_rfl) | (rw [Qt]; kernel_rfl) | as_aux_lemma => kernel_rfl
theorem over : Rows.fnLogOtherRow.holds Try.pinned (OpenSpec.ofChange Rows.fnLogOtherSpec) :=
  OpenClaim.holds_of_wide 22 Try.f22 rfl rfl rfl rfl rfl rfl rfl ⟨rfl, rfl, rfl, rfl, rfl⟩ rfl rfl rfl rfl rfl zb161 Try.func22 closed
    (of_decide_eq_true zb161) zb155
    (fun os started H enc _ => lifted os started H enc)
theorem proved : Rows.FnLogOtherSaid := over
#print axioms proved
end Go.Proofs.Ytcefiblpnegepaa.fnLogOther
namespace Go.Proofs.Ytcefiblpnegepaa
theorem fnLogOther_holds : Rows.FnLogOtherSaid := fnLogOther.proved
end Go.Proofs.Ytcefiblpnegepaa
