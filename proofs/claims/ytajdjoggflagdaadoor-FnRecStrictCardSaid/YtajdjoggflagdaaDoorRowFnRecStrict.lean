/- A record is written in one way: of a drawn text the program's RecRead tells what the reference's tells, and what it reads is a record whose text is that text. -/
import Derived.Test.YtajdjoggflagdaaDoorRows
import Derived.Test.YtajdjoggflagdaaDoorLawFnRecStrict
import Derived.Test.YtajdjoggflagdaaDoorOpen
import Derived.Test.YtajdjoggflagdaaDoorOrd
import Derived.WalkKit
import Derived.ProofKit
import Derived.OpenShut
import Derived.ShutString
import Derived.ChangeOld
import Derived.Below
import Derived.SizedLaws
import Derived.Test.YtajdjoggflagdaaDoorTie
import Derived.Test.YtajdjoggflagdaaDoorCards
import Derived.LaidMore
import Derived.Stop.Joined
import Derived.ChangeSame
import Derived.SevenTiedAt
import Derived.Test.YtajdjoggflagdaaDoorDoorR
namespace Go.Proofs.YtajdjoggflagdaaDoor.fnRecStrict
open Go.ChangeShapes Go.WideShapes Go.ChangeAt Go.RowKit Go.Proofs.YtajdjoggflagdaaDoor.T Go.Proofs.YtajdjoggflagdaaDoorW.PrintWords
open Go.ChangeMaps (open_string shut_string)
set_option linter.unusedVariables false
theorem own : ownKnob Tryd.prog.godebug = none := by kernel_rfl
theorem laidOut : laidOutB Tryd.prog = true := by kernel_rfl
set_option maxRecDepth 100000 in
theorem lifted (os : Os) (started : os.Started) (H : Type) (enc : TypeId × Value → H) :
    ReturnsInHanded {} Tryd.checked os 11 .any (fun w args => (Rows.fnRecStrictSpec.pre enc Tryd.prog Tryd.f11 [] false w args ∧ laidMetH Tryd.prog door.listed w) ∧ sizedMet enc Tryd.prog Tryd.f11 (OpenSpec.ofChange Rows.fnRecStrictSpec) false w args) (Rows.fnRecStrictSpec.post enc Tryd.prog Tryd.f11 false true false false) := by
  refine door.both_shaped (C := Tryd.checked) (X := fun w _ => laidMetH Tryd.prog door.listed w) (fun _ _ _ hh h => h.of_heap hh) own started (by kernel_rfl) Tryd.func11
    (ChangeSpec.witness_shaped (enc := enc) (C := Tryd.checked) (os := os) (X := fun w _ => laidMetH Tryd.prog door.listed w) false (door.laidWorld os) #[.slice none 0 0] 8 rfl (World.shaped_of_RefB (by kernel_rfl) (by kernel_rfl)) (by kernel_rfl) (by kernel_rfl) (by kernel_rfl) (door.door_met os _)) ?_
  intro W base args ds gs before hval0 hW _ hsz0 hL hSh
  have hval : ∀ (j : Nat) t v, Tryd.f11.params[j]? = some t → args[j]? = some v → Value.okWide Tryd.prog W .any base t v := hval0
  have hW' := hW
  obtain ⟨p, q, hA0, hV, rfl, hfz, hnd⟩ := hW
  have hA : DataW.TrodAll enc Tryd.prog W 0 (fun _ => true) true Tryd.f11.params.toList args.toList ds p := hA0
  rw [Tryd.params11] at hA hval
  obtain ⟨v0, vs0, d0, ds0, p0, q0, hargs, rfl, rfl, h0, r0⟩ := trodAll_cons hA
  obtain ⟨rfl, rfl, rfl⟩ := trodAll_nil r0
  obtain rfl : args = #[v0] := by cases args; simp_all
  obtain ⟨rfl, rfl⟩ := trodVars_none hV
  have k0 := h0
  have lt0 : ∀ x ∈ p0, x.block < W.heap.size := by obtain ⟨m, hm⟩ := k0; exact DataW.trod_lt m _ _ _ hm
  obtain ⟨A0, l0, c0, rfl, hl0, g0, gb0⟩ := open_bytes Tryd.underlying22 Tryd.underlying5 (by kernel_rfl) (hval 0 22 v0 rfl rfl) h0
  clear hA0 hval0 hsz0
  refine (FnRecStrict_walk A0 c0 l0 W (door.door_of hL hSh) hl0 g0 gb0).mono fun e W' ⟨he, bel⟩ => ?_
  subst he
  exact ⟨_, rfl, _, _, _, [], _, [], hW', trodAll_mk1 (shut_bool Tryd.underlying4 _), (trodAll_cons_mk (Below.trod laidOut (by kernel_rfl) (of_decide_eq_true (by kernel_rfl)) k0 bel lt0) trodAll_mk0), rfl, bel.frame _, fun h => by cases h⟩
set_option maxHeartbeats 2000000 in
theorem closed : joinedFacts Tryd.prog 11 Tryd.f11 Rows.fnRecStrictSpec Rows.fnRecStrictRow = true := by
  unfold joinedFacts
  repeat (with_reducible refine and_t ?_ ?_)
  all_goals first | (with_reducible exact mayEnter_t) | (rw [liftsFinal_eq]; kernel_rfl) | (rw [make_eq]; kernel_rfl) | as_aux_lemma => kernel_rfl
theorem over : Rows.fnRecStrictRow.holds Tryd.pinned (OpenSpec.ofChange Rows.fnRecStrictSpec) :=
  OpenClaim.holds_of_wide 11 Tryd.f11 rfl rfl rfl rfl rfl rfl rfl ⟨rfl, rfl, rfl, rfl, rfl⟩ rfl rfl rfl rfl rfl (by as_aux_lemma => kernel_rfl) Tryd.func11 closed
    (of_decide_eq_true (by as_aux_lemma => kernel_rfl)) (by as_aux_lemma => unfold Func.isWrapper; first | (rw [if_pos (by decide +kernel)]; kernel_rfl) | (rw [if_neg (by decide +kernel)]; exact ⟨rfl, rfl⟩))
    (fun os started H enc _ => lifted os started H enc)
theorem proved : Rows.FnRecStrictSaid := over
theorem card : Rows.FnRecStrictCardSaid :=
  Claim7.holds_tied_plain_at .later [] [.data, .data, .data, .data, .sentinel, .sentinel, .pinned] true (true, "efdd17f1c2921730cd08ba58fb662e57480d1962c060d171d5d2b2f618b0e42d") true
    proved (fun _ h => by cases h) (by kernel_rfl) (fun _ h => by cases h) fnRecStrict_row_tie rfl ⟨rfl, rfl⟩ (by kernel_rfl) rfl
    (fun g fn hg hfn => by
      obtain rfl : g = 11 := Option.some.inj ((show Tryd.prog.funcNamed "loop.example/tabularium/laws.FnRecStrict" = some 11 by kernel_rfl).symm.trans hg) |>.symm
      obtain rfl : fn = Tryd.f11 := (Option.some.inj (Tryd.func11.symm.trans hfn)).symm
      exact ⟨by kernel_rfl, fun j t ht => by
        rw [Tryd.params11] at ht
        have hm := Array.mem_of_getElem? ht
        have hall : ∀ u ∈ (Tryd.f11.params).toList, Tryd.prog.wantsStandIn u = false := by
          have h : ((Tryd.f11.params).toList.all fun u => !Tryd.prog.wantsStandIn u) = true := by kernel_rfl
          exact fun u hu => by simpa using List.all_eq_true.1 h u hu
        exact hall t (by rw [Tryd.params11]; simpa using hm)⟩)
    (by kernel_rfl)
#print axioms card
end Go.Proofs.YtajdjoggflagdaaDoor.fnRecStrict
namespace Go.Proofs.YtajdjoggflagdaaDoor
/-- The row, under a short name, for the claim. -/
theorem fnRecStrict_holds : Rows.FnRecStrictCardSaid := fnRecStrict.card
end Go.Proofs.YtajdjoggflagdaaDoor
