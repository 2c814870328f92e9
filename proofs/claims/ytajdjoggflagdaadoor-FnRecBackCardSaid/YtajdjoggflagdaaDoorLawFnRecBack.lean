/- What FnRecBack tells is true; the walk of the law. -/
import Derived.Test.YtajdjoggflagdaaDoorRRq
import Derived.Test.YtajdjoggflagdaaDoorPrLawRB
namespace Go.Proofs.YtajdjoggflagdaaDoor.T
open Go.RowKit Go.Proofs.YtajdjoggflagdaaDoorW.PrintWords Go.Proofs.YtajdjoggflagdaaDoor.Pr
set_option linter.unusedSimpArgs false
set_option linter.unusedVariables false
theorem PureFnRecBack (l : List Int) (hby : Bytes l) : laws_FnRecBack.f 11 l = some true := by
  unfold laws_FnRecBack.f
  split
  · rfl
  obtain ⟨a0, a1, a2, a3, a4, a5, a6, a7, e⟩ := DrawRecText_k l hby 9
  have e' : spec_DrawRecText.f 11 l = some (a0, a1, a2, a3, a4, a5, a6, a7) := e
  have s1 : spec_RecText.f 11 a0 a1 a2 a3 a4 a5 a6 a7 = some (recTextB a0 a1 a2 a3 a4 a5 a6 a7) := spec_RecText_k a0 a1 a2 a3 a4 a5 a6 a7 6
  have s2 : spec_RecText.f 10 a0 a1 a2 a3 a4 a5 a6 a7 = some (recTextB a0 a1 a2 a3 a4 a5 a6 a7) := spec_RecText_k a0 a1 a2 a3 a4 a5 a6 a7 5
  have i1 : impl_RecText.f 11 a0 a1 a2 a3 a4 a5 a6 a7 = some (recTextB a0 a1 a2 a3 a4 a5 a6 a7) := impl_RecText_k a0 a1 a2 a3 a4 a5 a6 a7 3
  simp only [e', Option.bind_some, s1, i1, if_true]
  rw [show (11 : Nat) = 10 + 1 from rfl, laws_FnRecBack.j0]
  by_cases hn : (recTextB a0 a1 a2 a3 a4 a5 a6 a7).toList = []
  · rw [hn]
    simp only [s2, Option.bind_some]
    rw [hn]
    rfl
  · have ok : recOkB a0 a1 a2 a3 a4 a5 a6 a7 = true := by
      cases q : recOkB a0 a1 a2 a3 a4 a5 a6 a7 with
      | true => rfl
      | false => exact absurd (by rw [recText_list, q]; rfl) hn
    have hb : ((recTextB a0 a1 a2 a3 a4 a5 a6 a7).toList == ([] : List UInt8)) = false := by simp [hn]
    have f1 : impl_RecRead.f 10 (recTextB a0 a1 a2 a3 a4 a5 a6 a7) = some (a0, a1, a2, a3, a4, a5, a6, a7, true) := RecRead_own a0 a1 a2 a3 a4 a5 a6 a7 ok 0
    rw [hb]
    simp only [Bool.false_eq_true, if_false, f1, Option.bind_some, beq_self_eq_true, Bool.and_self, if_true, impl_RecOk.f, ok]
theorem FnRecBack_walk (A : Option Addr) (c : Nat) (l : List Int) (w : World) (hdoor : Door w) (hc : l.length ≤ c) (hC : Kd.C (Kd.int .u8) w A l.length l) (hby : Bytes l) :
    Calls Tryd.prog 8 #[.slice A l.length c] w fun e w' => e = .returned (.bool true) ∧ Below w.heap.size w w' :=
  laws_FnRecBack.calls 11 A c l true w hdoor hC hc (PureFnRecBack l hby) ⟨rfl⟩
end Go.Proofs.YtajdjoggflagdaaDoor.T
