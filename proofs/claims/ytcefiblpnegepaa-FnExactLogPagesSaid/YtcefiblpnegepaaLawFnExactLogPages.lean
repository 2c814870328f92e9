/- What FnExactLogPages tells is true. -/
import Derived.Test.YtcefiblpnegepaaPrLawXP
import Derived.Test.YtcefiblpnegepaaOpenR
namespace Go.Proofs.Ytcefiblpnegepaa.T
open Go.RowKit Go.Proofs.YtcefiblpnegepaaW.PrintWords Go.Proofs.Ytcefiblpnegepaa.Pr
set_option linter.unusedSimpArgs false
set_option linter.unusedVariables false
theorem PureFnExactLogPages (l : List S58) (a : Int) (hl : l.length ≤ 9223372036854775807) (hg : ∀ x ∈ l, Rec64 x) (ha : I64 a) : ∃ k, laws_FnExactLogPages.f k l a = some true := by
  refine ⟨3 * l.length + 20, ?_⟩
  unfold laws_FnExactLogPages.f
  rw [szRecS_k l hl]
  simp only [Option.bind_some]
  by_cases h : (1048576 : Int) - (l.length : Int) < 0
  · simp [h]
  · have hcl := pagesB_len (l.map cv) a
    obtain ⟨l1, m1⟩ := markRecS_k (l.map cv) (by simp; omega) (3 * l.length + 20) (by simp; omega)
    obtain ⟨l2, m2, m3⟩ := markHeld_k (pagesB (l.map cv) a) (by omega) (3 * l.length + 19) (by omega)
    rw [List.length_map] at m1
    rw [if_neg h, if_neg h, toRecS_k l (by omega) _ (by omega)]
    simp only [Option.bind_some]
    rw [specLP_k _ _ (by simp; omega) _ (by simp)]
    simp only [Option.bind_some]
    rw [show ∀ k, impl_LogPages.f k (l.map cv) a = some (pagesB (l.map cv) a) from fun _ => rfl]
    simp only [Option.bind_some]
    rw [eqIntS_same _ (by omega) _ (by omega)]
    simp only [Option.bind_some, if_true]
    rw [eqRecS_k _ (by simp; omega) _ (by simp; omega)]
    simp only [Option.bind_some, if_true]
    rw [m1]
    simp only [Option.bind_some]
    rw [if_neg (by omega), laws_FnExactLogPages.j0]
    simp only [Bool.not_true, Bool.false_eq_true, if_false]
    rw [m2]
    simp only [Option.bind_some]
    rw [m3]
    simp only [Option.bind_some]
    rw [if_neg (by omega), if_pos trivial, toRecS_k l (by omega) _ (by omega)]
    simp only [Option.bind_some]
    rw [show ∀ k, impl_LogPages.f k (l.map cv) a = some (pagesB (l.map cv) a) from fun _ => rfl]
    simp only [Option.bind_some]
    rw [eqIntS_same _ (by omega) _ (by omega)]
    simp only [Option.bind_some, if_true]
    rw [if_neg (by omega)]
/-- The walk of the law: its printed contract, at the plain law. -/
theorem FnExactLogPages_walk (A : Option Addr) (c : Nat) (l : List S58) (a : Int) (w : World) (hc : l.length ≤ c) (hC : Kd.C k58 w A l.length l) (hg : ∀ x ∈ l, Rec64 x) (ha : I64 a) :
    Calls Try.prog 20 #[.slice A l.length c, .int .i64 a] w fun e w' => e = .returned (.bool true) ∧ Below w.heap.size w w' := by
  obtain ⟨k, h⟩ := PureFnExactLogPages l a hC.2.1 hg ha
  exact laws_FnExactLogPages.calls k A c l a true w hC hc h ⟨rfl⟩
end Go.Proofs.Ytcefiblpnegepaa.T
