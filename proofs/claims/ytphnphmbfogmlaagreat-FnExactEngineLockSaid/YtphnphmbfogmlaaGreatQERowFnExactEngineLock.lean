import Derived.Test.YtphnphmbfogmlaaGreatRows
import Derived.WalkKit
import Derived.ProofKit
import Derived.OpenShut
import Derived.ShutString
import Derived.ChangeOld
import Derived.Below
import Derived.SizedLaws
import Derived.Test.YtphnphmbfogmlaaGreatQEByq
import Derived.Test.YtphnphmbfogmlaaGreatQESizE
import Derived.Test.YtphnphmbfogmlaaGreatQELawLock
import Derived.Test.YtphnphmbfogmlaaGreatQEOrd
namespace Go.Proofs.YtphnphmbfogmlaaGreat.fnExactEngineLock
open Go.ChangeShapes Go.WideShapes Go.ChangeAt Go.RowKit Go.Proofs.YtphnphmbfogmlaaGreat.T Go.PW
open Go.ChangeMaps (open_string shut_string)
set_option linter.unusedVariables false
theorem own : ownKnob Tryz.prog.godebug = none := by kernel_rfl
theorem laidOut : laidOutB Tryz.prog = true := by kernel_rfl
set_option maxRecDepth 100000 in
theorem lifted (os : Os) (started : os.Started) (H : Type) (enc : TypeId × Value → H) :
 ReturnsInHanded {} Tryz.checked os 3 .any (Rows.fnExactEngineLockSpec.pre6 enc Tryz.prog Tryz.f3 Rows.fnExactEngineLockRow.domain false) (Rows.fnExactEngineLockSpec.post enc Tryz.prog Tryz.f3 false true false false) := by
 refine returnsInHanded_of_change_sized (C := Tryz.checked) own started zb9 Tryz.func3
  (ChangeSpec.witness6 (enc := enc) (C := Tryz.checked) false ⟨#[], #[.agg #[.slice none 0 0, .slice none 0 0, .slice none 0 0, .int .i64 0, .bool false], .int .i64 0], []⟩ 8 zb9 zb9 zb9 zb9) ?_
 intro W base args ds gs before hval0 hW hcnd hsz0 _; have hval : ∀ (j : Nat) t v, Tryz.f3.params[j]? = some t → args[j]? = some v → Value.okWide Tryz.prog W .any base t v := hval0; have hW' := hW; obtain ⟨p, q, hA0, hV, rfl, hfz, hnd⟩ := hW; have hA : DataW.TrodAll enc Tryz.prog W 0 (fun _ => true) true Tryz.f3.params.toList args.toList ds p := hA0; rw [Tryz.params3] at hA hval; obtain ⟨v0, vs0, d0, ds0, p0, q0, hargs, rfl, rfl, h0, r0⟩ := trodAll_cons hA; obtain ⟨v1, vs1, d1, ds1, p1, q1, rfl, rfl, rfl, h1, r1⟩ := trodAll_cons r0; obtain ⟨rfl, rfl, rfl⟩ := trodAll_nil r1
 obtain rfl : args = #[v0, v1] := by cases args; simp_all
 obtain ⟨rfl, rfl⟩ := trodVars_none hV; have k0 := h0
 have lt0 : ∀ x ∈ p0, x.block < W.heap.size := by obtain ⟨m, hm⟩ := k0; exact DataW.trod_lt m _ _ _ hm
 obtain ⟨A_0, D_0, c_0, B_0, M_0, n_0, C_0, L_0, o_0, s_0, b_0, rfl, u0, m0, w0, z0⟩ := PT (hval 0 25 v0 rfl rfl) h0; have k1 := h1
 have lt1 : ∀ x ∈ p1, x.block < W.heap.size := by obtain ⟨m, hm⟩ := k1; exact DataW.trod_lt m _ _ _ hm
 obtain ⟨a1, rfl, rfl, rfl, g1⟩ := open_int Tryz.underlying3 (hval 1 3 v1 rfl rfl) h1; clear hA0 hval0 hsz0
 refine (Wo A_0 D_0 c_0 B_0 M_0 n_0 C_0 L_0 o_0 s_0 b_0 a1 W u0 m0 w0 (KH g1)).mono fun e W' ⟨he, bel⟩ => ?_
 subst he; exact ⟨_, rfl, _, _, _, [], _, [], hW', trodAll_mk1 (shut_bool Tryz.underlying4 _), (trodAll_cons_mk (Below.trod laidOut zb9 (of_decide_eq_true zb9) k0 bel lt0) (trodAll_cons_mk (Below.trod laidOut zb9 (of_decide_eq_true zb9) k1 bel lt1) trodAll_mk0)), rfl, bel.frame _, fun h => by cases h⟩
set_option maxHeartbeats 2000000 in
theorem closed : joinedFacts Tryz.prog 3 Tryz.f3 Rows.fnExactEngineLockSpec Rows.fnExactEngineLockRow = true := by
 unfold joinedFacts
 repeat (with_reducible refine Xrj ?_ ?_)
 all_goals first | (with_reducible exact Tc) | (rw [NM]; kernel_rfl) | (rw [XeR]; kernel_rfl) | as_aux_lemma => kernel_rfl
theorem over : Rows.fnExactEngineLockRow.holds Tryz.pinned (OpenSpec.ofChange Rows.fnExactEngineLockSpec) :=
 OpenClaim.holds_of_wide 3 Tryz.f3 rfl rfl rfl rfl rfl rfl rfl ⟨rfl, rfl, rfl, rfl, rfl⟩ rfl rfl rfl rfl rfl zb146 Tryz.func3 closed
  (of_decide_eq_true zb146) zb134
  (fun os started H enc _ => lifted os started H enc)
theorem proved : Rows.FnExactEngineLockSaid := over
#print axioms proved
end Go.Proofs.YtphnphmbfogmlaaGreat.fnExactEngineLock
namespace Go.Proofs.YtphnphmbfogmlaaGreat
theorem fnExactEngineLock_holds : Rows.FnExactEngineLockSaid := fnExactEngineLock.proved
end Go.Proofs.YtphnphmbfogmlaaGreat
