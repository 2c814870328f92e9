/- The program's RecText returns what the reference's returns, for all arguments. -/
import Derived.Test.YtajdjoggflagdaaDoorRows
import Derived.Test.YtajdjoggflagdaaDoorLawFnExactRecText
import Derived.Test.YtajdjoggflagdaaDoorOpen
import Derived.Test.YtajdjoggflagdaaDoorOrd
import Derived.WalkKit
import Derived.ProofKit
import Derived.OpenShut
import Derived.ShutString
import Derived.ChangeOld
import Derived.Below
import Derived.SizedLaws
import Derived.Test.YtajdjoggflagdaaDoorTie
import Derived.Test.YtajdjoggflagdaaDoorCards
import Derived.LaidMore
import Derived.Stop.Joined
import Derived.ChangeSame
import Derived.SevenTiedAt
import Derived.LaidSub
import Derived.MakeChecks
import Derived.Lib.LaidTab
import Derived.Lib.ItoaNum
namespace Go.Proofs.YtajdjoggflagdaaDoor.fnExactRecText
open Go.ChangeShapes Go.WideShapes Go.ChangeAt Go.RowKit Go.Proofs.YtajdjoggflagdaaDoor.T Go.Proofs.YtajdjoggflagdaaDoorW.PrintWords
open Go.ChangeMaps (open_string shut_string)
set_option linter.unusedVariables false
theorem own : ownKnob Tryd.prog.godebug = none := by kernel_rfl
theorem laidOut : laidOutB Tryd.prog = true := by kernel_rfl
/-- What is listed. -/
abbrev listed : List (String × DataW Unit) := [("math/bits.deBruijn32tab", Rows.laid_math_bits_deBruijn32tab), ("math/bits.deBruijn64tab", Rows.laid_math_bits_deBruijn64tab), ("internal/strconv.uint64pow10", Rows.laid_internal_strconv_uint64pow10)]
theorem door_met (os : Os) (args : Array Value) : laidMetH Tryd.prog listed ((World.doorLaid Tryd.prog 72 os).forCall (fun _ _ => 0) ⟨#[], args, []⟩).memory :=
  laidMetH_of_parts3 (fuel := 8) (laidMet_of_run' 8 (by kernel_rfl) (by kernel_rfl)) (by kernel_rfl) (by kernel_rfl)
theorem pow_of {W : World} (h : laidMetH Tryd.prog listed W) : Lib.TabIs Tryd.prog W "internal/strconv.uint64pow10" .u64 Lib.pow10Tab := by
  have h1 := laidMetH.filter (fun x => x.1 == "internal/strconv.uint64pow10") h
  have h2 : laidMetH Tryd.prog [("internal/strconv.uint64pow10", Lib.tabData .u64 Lib.pow10Tab)] W := h1
  rw [Go.MakeChecks.laidMetH_plain _ _ _ (by kernel_rfl)] at h2
  exact Lib.tabIs_of_head (g := 2) (t := 117) (e := 100) (n := 20) (by kernel_rfl) (by kernel_rfl) (by kernel_rfl) (by kernel_rfl) (by kernel_rfl) (by kernel_rfl) h2
set_option maxRecDepth 100000 in
theorem lifted (os : Os) (started : os.Started) (H : Type) (enc : TypeId × Value → H) :
    ReturnsInHanded {} Tryd.checked os 6 .any (fun w args => (Rows.fnExactRecTextSpec.pre enc Tryd.prog Tryd.f6 [] false w args ∧ laidMetH Tryd.prog listed w) ∧ sizedMet enc Tryd.prog Tryd.f6 (OpenSpec.ofChange Rows.fnExactRecTextSpec) false w args) (Rows.fnExactRecTextSpec.post enc Tryd.prog Tryd.f6 false true false false) := by
  refine returnsInHanded_of_change_and (C := Tryd.checked) (X := fun w _ => laidMetH Tryd.prog listed w) (fun _ _ _ hh h => h.of_heap hh) own started (by kernel_rfl) Tryd.func6
    (ChangeSpec.witness_shaped (enc := enc) (C := Tryd.checked) (os := os) (X := fun w _ => laidMetH Tryd.prog listed w) false (World.doorLaid Tryd.prog 72 os) #[.agg #[.int .i64 0, .int .i64 0, .int .i64 0, .int .i64 0, .int .i64 0, .int .i64 0, .int .i64 0, .int .i64 0]] 8 rfl (World.shaped_of_RefB (by kernel_rfl) (by kernel_rfl)) (by kernel_rfl) (by kernel_rfl) (by kernel_rfl) (door_met os _)) ?_
  intro W base args ds gs before hval0 hW _ hsz0 hL _
  have hval : ∀ (j : Nat) t v, Tryd.f6.params[j]? = some t → args[j]? = some v → Value.okWide Tryd.prog W .any base t v := hval0
  have hW' := hW
  obtain ⟨p, q, hA0, hV, rfl, hfz, hnd⟩ := hW
  have hA : DataW.TrodAll enc Tryd.prog W 0 (fun _ => true) true Tryd.f6.params.toList args.toList ds p := hA0
  rw [Tryd.params6] at hA hval
  obtain ⟨v0, vs0, d0, ds0, p0, q0, hargs, rfl, rfl, h0, r0⟩ := trodAll_cons hA
  obtain ⟨rfl, rfl, rfl⟩ := trodAll_nil r0
  obtain rfl : args = #[v0] := by cases args; simp_all
  obtain ⟨rfl, rfl⟩ := trodVars_none hV
  have k0 := h0
  have lt0 : ∀ x ∈ p0, x.block < W.heap.size := by obtain ⟨m, hm⟩ := k0; exact DataW.trod_lt m _ _ _ hm
  obtain ⟨a0_0, a0_1, a0_2, a0_3, a0_4, a0_5, a0_6, a0_7, rfl, g0⟩ := open_rec8 Tryd.underlying35 (by kernel_rfl) (by kernel_rfl) (by rfl) (by kernel_rfl) (hval 0 35 v0 rfl rfl) h0
  clear hA0 hval0 hsz0
  refine (FnExactRecText_walk a0_0 a0_1 a0_2 a0_3 a0_4 a0_5 a0_6 a0_7 W (pow_of hL) g0).mono fun e W' ⟨he, bel⟩ => ?_
  subst he
  exact ⟨_, rfl, _, _, _, [], _, [], hW', trodAll_mk1 (shut_bool Tryd.underlying4 _), (trodAll_cons_mk (Below.trod laidOut (by kernel_rfl) (of_decide_eq_true (by kernel_rfl)) k0 bel lt0) trodAll_mk0), rfl, bel.frame _, fun h => by cases h⟩
set_option maxHeartbeats 2000000 in
theorem closed : joinedFacts Tryd.prog 6 Tryd.f6 Rows.fnExactRecTextSpec Rows.fnExactRecTextRow = true := by
  unfold joinedFacts
  repeat (with_reducible refine and_t ?_ ?_)
  all_goals first | (with_reducible exact mayEnter_t) | (rw [liftsFinal_eq]; kernel_rfl) | (rw [make_eq]; kernel_rfl) | as_aux_lemma => kernel_rfl
theorem over : Rows.fnExactRecTextRow.holds Tryd.pinned (OpenSpec.ofChange Rows.fnExactRecTextSpec) :=
  OpenClaim.holds_of_wide 6 Tryd.f6 rfl rfl rfl rfl rfl rfl rfl ⟨rfl, rfl, rfl, rfl, rfl⟩ rfl rfl rfl rfl rfl (by as_aux_lemma => kernel_rfl) Tryd.func6 closed
    (of_decide_eq_true (by as_aux_lemma => kernel_rfl)) (by as_aux_lemma => unfold Func.isWrapper; first | (rw [if_pos (by decide +kernel)]; kernel_rfl) | (rw [if_neg (by decide +kernel)]; exact ⟨rfl, rfl⟩))
    (fun os started H enc _ => lifted os started H enc)
theorem proved : Rows.FnExactRecTextSaid := over
theorem card : Rows.FnExactRecTextCardSaid :=
  Claim7.holds_tied_plain_at .later [] [.data, .data, .data] true (true, "efdd17f1c2921730cd08ba58fb662e57480d1962c060d171d5d2b2f618b0e42d") true
    proved (fun _ h => by cases h) (by kernel_rfl) (fun _ h => by cases h) fnExactRecText_row_tie rfl ⟨rfl, rfl⟩ (by kernel_rfl) rfl
    (fun g fn hg hfn => by
      obtain rfl : g = 6 := Option.some.inj ((show Tryd.prog.funcNamed "loop.example/tabularium/laws.FnExactRecText" = some 6 by kernel_rfl).symm.trans hg) |>.symm
      obtain rfl : fn = Tryd.f6 := (Option.some.inj (Tryd.func6.symm.trans hfn)).symm
      exact ⟨by kernel_rfl, fun j t ht => by
        rw [Tryd.params6] at ht
        have hm := Array.mem_of_getElem? ht
        have hall : ∀ u ∈ (Tryd.f6.params).toList, Tryd.prog.wantsStandIn u = false := by
          have h : ((Tryd.f6.params).toList.all fun u => !Tryd.prog.wantsStandIn u) = true := by kernel_rfl
          exact fun u hu => by simpa using List.all_eq_true.1 h u hu
        exact hall t (by rw [Tryd.params6]; simpa using hm)⟩)
    (by kernel_rfl)
#print axioms card
end Go.Proofs.YtajdjoggflagdaaDoor.fnExactRecText
namespace Go.Proofs.YtajdjoggflagdaaDoor
/-- The row, under a short name, for the claim. -/
theorem fnExactRecText_holds : Rows.FnExactRecTextCardSaid := fnExactRecText.card
end Go.Proofs.YtajdjoggflagdaaDoor
