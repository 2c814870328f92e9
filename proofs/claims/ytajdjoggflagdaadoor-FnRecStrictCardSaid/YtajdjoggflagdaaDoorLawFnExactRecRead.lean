/- What FnExactRecRead tells is true; the walk of the law. -/
import Derived.Test.YtajdjoggflagdaaDoorSRp
import Derived.Test.YtajdjoggflagdaaDoorPrLawXW
import Derived.Test.YtajdjoggflagdaaDoorOpen
namespace Go.Proofs.YtajdjoggflagdaaDoor.T
open Go.RowKit Go.Proofs.YtajdjoggflagdaaDoorW.PrintWords Go.Proofs.YtajdjoggflagdaaDoor.Pr
set_option linter.unusedSimpArgs false
set_option linter.unusedVariables false
/-- The program's RecRead and the reference's tell the same. -/
theorem RecRead_same (s : ByteArray) (hs : s.size < 4294967281) : ∃ c0 c1 c2 c3 c4 c5 c6 c7 b, impl_RecRead.f 40 s = some (c0, c1, c2, c3, c4, c5, c6, c7, b) ∧ spec_RecRead.f 40 s = some (c0, c1, c2, c3, c4, c5, c6, c7, b) ∧
    (b = true → recOkB c0 c1 c2 c3 c4 c5 c6 c7 = true ∧ recTextB c0 c1 c2 c3 c4 c5 c6 c7 = s) := by
  have inj : ∀ a b : ByteArray, a.toList = b.toList → a = b := by
    intro a b h
    rw [ba_listR, ba_listR] at h
    have h6 : a.data = b.data := Array.toList_inj.mp h
    cases a; cases b; simp_all
  obtain ⟨c0, c1, c2, c3, c4, c5, c6, c7, b, e1, g1, z1⟩ := RecRead_any s hs 30
  obtain ⟨d0, d1, d2, d3, d4, d5, d6, d7, b', e2, g2, z2⟩ := SpecRead_any s
  have e1' : impl_RecRead.f 40 s = some (c0, c1, c2, c3, c4, c5, c6, c7, b) := e1
  cases b with
  | true =>
    obtain ⟨ok, ht⟩ := g1 rfl
    have hts := inj _ _ ht
    have h := SpecRead_own c0 c1 c2 c3 c4 c5 c6 c7 ok
    rw [hts] at h
    exact ⟨c0, c1, c2, c3, c4, c5, c6, c7, true, e1', h, fun _ => ⟨ok, hts⟩⟩
  | false =>
    obtain ⟨rfl, rfl, rfl, rfl, rfl, rfl, rfl, rfl⟩ := z1 rfl
    cases b' with
    | true =>
      obtain ⟨ok, ht⟩ := g2 rfl
      have hts := inj _ _ ht
      have h : impl_RecRead.f 40 (recTextB d0 d1 d2 d3 d4 d5 d6 d7) = some (d0, d1, d2, d3, d4, d5, d6, d7, true) := RecRead_own d0 d1 d2 d3 d4 d5 d6 d7 ok 30
      rw [hts, e1'] at h
      simp at h
    | false =>
      obtain ⟨rfl, rfl, rfl, rfl, rfl, rfl, rfl, rfl⟩ := z2 rfl
      exact ⟨0, 0, 0, 0, 0, 0, 0, 0, false, e1', e2, fun h => by cases h⟩
theorem PureFnExactRecRead (s : ByteArray) : laws_FnExactRecRead.f 40 s = some true := by
  unfold laws_FnExactRecRead.f
  split
  · rfl
  · obtain ⟨c0, c1, c2, c3, c4, c5, c6, c7, b, e1, e2, _⟩ := RecRead_same s (by omega)
    simp [e1, e2, laws_eqRec.f]
theorem FnExactRecRead_walk (s : ByteArray) (w : World) (hdoor : Door w) (_g : s.size ≤ maxLen) : Calls Tryd.prog 10 #[.string s] w fun e w' => e = .returned (.bool true) ∧ Below w.heap.size w w' :=
  laws_FnExactRecRead.calls 40 s true w hdoor (PureFnExactRecRead s) ⟨rfl⟩
end Go.Proofs.YtajdjoggflagdaaDoor.T
