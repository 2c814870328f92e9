import Derived.Test.YtphnphmbfogmlaaGreatRows
import Derived.WalkKit
import Derived.ProofKit
import Derived.OpenShut
import Derived.ShutString
import Derived.ChangeOld
import Derived.Below
import Derived.SizedLaws
import Derived.Test.YtphnphmbfogmlaaGreatQFByq
import Derived.Test.YtphnphmbfogmlaaGreatQFEngP
import Derived.Test.YtphnphmbfogmlaaGreatQFOrd
import Derived.Test.YtphnphmbfogmlaaGreatQFPuDirty
set_option linter.unusedVariables false
set_option linter.unusedSimpArgs false
namespace Go.Proofs.YtphnphmbfogmlaaGreat.fnExactEngineDirty
open Go.ChangeShapes Go.WideShapes Go.ChangeAt Go.RowKit Go.Proofs.YtphnphmbfogmlaaGreat.T Go.PW
open Go.ChangeMaps (open_string shut_string)
theorem own : ownKnob Tryz.prog.godebug = none := by kernel_rfl
theorem laidOut : laidOutB Tryz.prog = true := by kernel_rfl
set_option maxRecDepth 100000 in
theorem lifted (os : Os) (started : os.Started) (H : Type) (enc : TypeId × Value → H) :
 ReturnsInHanded {} Tryz.checked os 5 .any (Rows.fnExactEngineDirtySpec.pre6 enc Tryz.prog Tryz.f5 Rows.fnExactEngineDirtyRow.domain false) (Rows.fnExactEngineDirtySpec.post enc Tryz.prog Tryz.f5 false true false false) := by
 refine returnsInHanded_of_change_sized (C := Tryz.checked) own started zb6 Tryz.func5
  (ChangeSpec.witness6 (enc := enc) (C := Tryz.checked) false ⟨#[], #[.agg #[.slice none 0 0, .slice none 0 0, .slice none 0 0, .int .i64 0, .bool false]], []⟩ 8 zb6 zb6 zb6 zb6) ?_
 intro W base args ds gs before hval0 hW hcnd hsz0 _; have hval : ∀ (j : Nat) t v, Tryz.f5.params[j]? = some t → args[j]? = some v → Value.okWide Tryz.prog W .any base t v := hval0; have hW' := hW; obtain ⟨p, q, hA0, hV, rfl, hfz, hnd⟩ := hW; have hA : DataW.TrodAll enc Tryz.prog W 0 (fun _ => true) true Tryz.f5.params.toList args.toList ds p := hA0; rw [Tryz.params5] at hA hval; obtain ⟨v0, vs0, d0, ds0, p0, q0, hargs, rfl, rfl, h0, r0⟩ := trodAll_cons hA; obtain ⟨rfl, rfl, rfl⟩ := trodAll_nil r0
 obtain rfl : args = #[v0] := by cases args; simp_all
 obtain ⟨rfl, rfl⟩ := trodVars_none hV; have k0 := h0
 have lt0 : ∀ x ∈ p0, x.block < W.heap.size := by obtain ⟨m, hm⟩ := k0; exact DataW.trod_lt m _ _ _ hm
 obtain ⟨A_0, D_0, c_0, B_0, M_0, n_0, C_0, L_0, o_0, s_0, b_0, rfl, u0, m0, w0, z0⟩ := Tu (hval 0 25 v0 rfl rfl) h0; clear hA0 hval0 hsz0
 refine (Mq A_0 D_0 c_0 B_0 M_0 n_0 C_0 L_0 o_0 s_0 b_0 W u0 m0 w0).mono fun e W' ⟨he, bel⟩ => ?_
 subst he; exact ⟨_, rfl, _, _, _, [], _, [], hW', trodAll_mk1 (shut_bool Tryz.underlying4 _), (trodAll_cons_mk (Below.trod laidOut zb6 (of_decide_eq_true zb6) k0 bel lt0) trodAll_mk0), rfl, bel.frame _, fun h => by cases h⟩
set_option maxHeartbeats 2000000 in
theorem closed : joinedFacts Tryz.prog 5 Tryz.f5 Rows.fnExactEngineDirtySpec Rows.fnExactEngineDirtyRow = true := by
 unfold joinedFacts
 repeat (with_reducible refine Xst ?_ ?_)
 all_goals first | (with_reducible exact EE) | (rw [We]; kernel_rfl) | (rw [XjP]; kernel_rfl) | as_aux_lemma => kernel_rfl
theorem over : Rows.fnExactEngineDirtyRow.holds Tryz.pinned (OpenSpec.ofChange Rows.fnExactEngineDirtySpec) :=
 OpenClaim.holds_of_wide 5 Tryz.f5 rfl rfl rfl rfl rfl rfl rfl ⟨rfl, rfl, rfl, rfl, rfl⟩ rfl rfl rfl rfl rfl (by as_aux_lemma => kernel_rfl) Tryz.func5 closed
  (of_decide_eq_true (by as_aux_lemma => kernel_rfl)) zb108
  (fun os started H enc _ => lifted os started H enc)
theorem proved : Rows.FnExactEngineDirtySaid := over
#print axioms proved
end Go.Proofs.YtphnphmbfogmlaaGreat.fnExactEngineDirty
namespace Go.Proofs.YtphnphmbfogmlaaGreat
theorem fnExactEngineDirty_holds : Rows.FnExactEngineDirtySaid := fnExactEngineDirty.proved
end Go.Proofs.YtphnphmbfogmlaaGreat
