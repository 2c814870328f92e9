/- What FnExactLogLast tells is true. -/
import Derived.Test.YtcefiblpnegepaaLogP
import Derived.Test.YtcefiblpnegepaaOpenR
import Derived.Test.YtcefiblpnegepaaLast
import Derived.Test.YtcefiblpnegepaaPrLawXL
namespace Go.Proofs.Ytcefiblpnegepaa.T
open Go.RowKit Go.Proofs.YtcefiblpnegepaaW.PrintWords Go.Proofs.Ytcefiblpnegepaa.Pr
set_option linter.unusedSimpArgs false
set_option linter.unusedVariables false
theorem specLogLast_k (l : List S41) (a : Int) (hl : l.length ≤ 9223372036854775807) (k : Nat) (hk : 3 * l.length + 4 < k) : spec_LogLast.f k l a = some (if logOkB l = true then lastB l a else 0) := by
  unfold spec_LogLast.f
  rw [spec_LogOk_k l hl k hk]
  simp only [Option.bind_some]
  cases logOkB l with
  | false => rfl
  | true => simp [l3Last_k l a hl k (by omega)]
theorem implLogLast_k (l : List S41) (a : Int) (hl : l.length ≤ 9223372036854775807) (k : Nat) (hk : 3 * l.length + 4 < k) : impl_LogLast.f k l a = some (if logOkB l = true then lastB l a else 0) := by
  unfold impl_LogLast.f impl_last.f
  rw [impl_LogOk_k l hl k hk]
  simp only [Option.bind_some]
  cases logOkB l <;> rfl
theorem PureFnExactLogLast (l : List S58) (a : Int) (hl : l.length ≤ 9223372036854775807) (hg : ∀ x ∈ l, Rec64 x) (ha : I64 a) : ∃ k, laws_FnExactLogLast.f k l a = some true := by
  refine ⟨3 * l.length + 5, ?_⟩
  unfold laws_FnExactLogLast.f
  rw [szRecS_k l hl]
  simp only [Option.bind_some]
  by_cases h : (1048576 : Int) - (l.length : Int) < 0
  · simp [h]
  · rw [if_neg h, if_neg h, toRecS_k l (by omega) _ (by omega)]
    simp only [Option.bind_some]
    rw [specLogLast_k _ _ (by simp; omega) _ (by simp), implLogLast_k _ _ (by simp; omega) _ (by simp), eqRecS_k _ (by simp; omega) _ (by simp; omega)]
    simp
/-- The walk of the law: its printed contract, at the plain law. -/
theorem FnExactLogLast_walk (A : Option Addr) (c : Nat) (l : List S58) (a : Int) (w : World) (hc : l.length ≤ c) (hC : Kd.C k58 w A l.length l) (hg : ∀ x ∈ l, Rec64 x) (ha : I64 a) :
    Calls Try.prog 6 #[.slice A l.length c, .int .i64 a] w fun e w' => e = .returned (.bool true) ∧ Below w.heap.size w w' := by
  obtain ⟨k, h⟩ := PureFnExactLogLast l a hC.2.1 hg ha
  exact laws_FnExactLogLast.calls k A c l a true w hC hc h ⟨rfl⟩
end Go.Proofs.Ytcefiblpnegepaa.T
