/- What FnExactLogOk tells is true. -/
import Derived.Test.YtcefiblpnegepaaLogP
import Derived.Test.YtcefiblpnegepaaOpenR
import Derived.Test.YtcefiblpnegepaaPrLawXO
namespace Go.Proofs.Ytcefiblpnegepaa.T
open Go.RowKit Go.Proofs.YtcefiblpnegepaaW.PrintWords Go.Proofs.Ytcefiblpnegepaa.Pr
set_option linter.unusedSimpArgs false
set_option linter.unusedVariables false
theorem PureFnExactLogOk (l : List S58) (hl : l.length ≤ 9223372036854775807) (hg : ∀ x ∈ l, Rec64 x) : ∃ k, laws_FnExactLogOk.f k l = some true := by
  refine ⟨3 * l.length + 5, ?_⟩
  unfold laws_FnExactLogOk.f
  rw [szRecS_k l hl]
  simp only [Option.bind_some]
  by_cases h : (1048576 : Int) - (l.length : Int) < 0
  · simp [h]
  · rw [if_neg h, if_neg h, toRecS_k l (by omega) _ (by omega)]
    simp only [Option.bind_some]
    rw [spec_LogOk_k _ (by simp; omega) _ (by simp), impl_LogOk_k _ (by simp; omega) _ (by simp), eqRecS_k _ (by simp; omega) _ (by simp; omega)]
    simp
/-- The walk of the law: its printed contract, at the plain law. -/
theorem FnExactLogOk_walk (A : Option Addr) (c : Nat) (l : List S58) (w : World) (hc : l.length ≤ c) (hC : Kd.C k58 w A l.length l) (hg : ∀ x ∈ l, Rec64 x) :
    Calls Try.prog 5 #[.slice A l.length c] w fun e w' => e = .returned (.bool true) ∧ Below w.heap.size w w' := by
  obtain ⟨k, h⟩ := PureFnExactLogOk l hC.2.1 hg
  exact laws_FnExactLogOk.calls k A c l true w hC hc h ⟨rfl⟩
end Go.Proofs.Ytcefiblpnegepaa.T
