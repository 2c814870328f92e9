/- What FnExactPageText tells is true. -/
import Derived.Test.YtajdjoggflagdaaDoorTxP
import Derived.Test.YtajdjoggflagdaaDoorPrLawXT
namespace Go.Proofs.YtajdjoggflagdaaDoor.T
open Go.RowKit Go.Proofs.YtajdjoggflagdaaDoorW.PrintWords Go.Proofs.YtajdjoggflagdaaDoor.Pr
set_option linter.unusedSimpArgs false
set_option linter.unusedVariables false
theorem toPage_k (a b : Int) (l : List Int) (hl : l.length ≤ 1048576) (k : Nat) (hk : l.length < k) : laws_toPage.f k a b l = some (a, b, l) := by
  have h := leo_le (laws_toIntS.mono l) (toIntS_f l (by omega)) (k - (l.length + 1))
  rw [show l.length + 1 + (k - (l.length + 1)) = k by omega] at h
  unfold laws_toPage.f
  rw [h]
  rfl
theorem eqPage_k (a b : Int) (l : List Int) (hl : l.length ≤ 1048576) (k : Nat) (hk : l.length < k) : laws_eqPage.f k a b l a b l = some true := by
  have h := leo_le (laws_eqIntS.mono l l) (by simpa using eqIntS_f l l (by omega)) (k - (l.length + 1))
  rw [show l.length + 1 + (k - (l.length + 1)) = k by omega] at h
  unfold laws_eqPage.f
  rw [h]
  simp
theorem PureFnExactPageText (a b : Int) (l : List Int) (hl : l.length ≤ 9223372036854775807) : ∃ k, laws_FnExactPageText.f k a b l = some true := by
  refine ⟨l.length + 20, ?_⟩
  unfold laws_FnExactPageText.f
  have hsz : laws_szPage.f a b l 1048576 = some (szB l.length 1048576) := by
    unfold laws_szPage.f
    rw [szIntS_f l 1048576 (by omega) (by omega) hl, Option.bind_some]
    unfold szB
    by_cases h : (1048576 : Int) - (l.length : Int) < 0
    · rw [if_pos h, if_pos (by omega)]
    · rw [if_neg h, if_neg h]
  rw [hsz]
  simp only [Option.bind_some]
  unfold szB
  by_cases h : (1048576 : Int) - (l.length : Int) < 0
  · simp [h]
  · rw [if_neg h, if_neg h, toPage_k a b l (by omega) _ (by omega)]
    simp only [Option.bind_some]
    rw [spec_PageText_k a b l hl _ (by omega)]
    simp only [Option.bind_some, impl_PageText.f]
    simp only [if_true]
    rw [eqPage_k a b l (by omega) _ (by omega)]
    simp
/-- The walk of the law: its printed contract, at the plain law. -/
theorem FnExactPageText_walk (a b : Int) (A : Option Addr) (c : Nat) (l : List Int) (w : World) (hc : l.length ≤ c) (hC : Kd.C (Kd.int .i64) w A l.length l) :
    Calls Tryd.prog 4 #[.agg #[.int .i64 a, .int .i64 b, .slice A l.length c]] w fun e w' => e = .returned (.bool true) ∧ Below w.heap.size w w' := by
  obtain ⟨k, h⟩ := PureFnExactPageText a b l hC.2.1
  exact laws_FnExactPageText.calls k a b A c l true w hC hc h ⟨rfl⟩
end Go.Proofs.YtajdjoggflagdaaDoor.T
