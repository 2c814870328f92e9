/- What the tales of RecBack tell, and the contracts of these functions. -/
import Derived.Test.YtcefiblpnegepaaOks
import Derived.Test.YtcefiblpnegepaaRecBack
import Derived.Test.YtcefiblpnegepaaPrRB
namespace Go.Proofs.Ytcefiblpnegepaa.Pr
open Go.RowKit Go.Proofs.YtcefiblpnegepaaW.PrintWords Go.Proofs.Ytcefiblpnegepaa.T
set_option linter.unusedSimpArgs false
set_option linter.unusedVariables false
/-- What RecBack hands back. -/
def backD (k tx p s o n pv nx prev : Int) : Int × Int × Int × Int × Int × Int × Int × Int × Bool := if backB k tx p s o n pv nx prev = true then (6, tx, p, s, 0, o, prev, pv, true) else (0, 0, 0, 0, 0, 0, 0, 0, false)
theorem in_f (n lo hi : Int) : impl_in.f n lo hi = some (inB n lo hi) := by
  unfold impl_in.f inB
  by_cases h : lo ≤ n
  · rw [if_pos h]
    simp [h]
  · rw [if_neg h]
    simp [h]
theorem specBack_k (k tx p s o n pv nx prev : Int) (j : Nat) : spec_RecBack.f (j + 2) k tx p s o n pv nx prev = some (backD k tx p s o n pv nx prev) := by
  unfold spec_RecBack.f backD backB
  rw [spec_RecOk_k]
  simp only [Option.bind_some, l6In_f, spec_l2Back.f]
  cases recOkB k tx p s o n pv nx <;> by_cases h1 : k = 1 <;> by_cases h2 : k = 2 <;> cases inB prev 0 150 <;> simp_all
theorem spec_RecBack.calls (k : Nat) (a0_0 : Int) (a0_1 : Int) (a0_2 : Int) (a0_3 : Int) (a0_4 : Int) (a0_5 : Int) (a0_6 : Int) (a0_7 : Int) (a1 : Int) (r1 : Int) (r2 : Int) (r3 : Int) (r4 : Int) (r5 : Int) (r6 : Int) (r7 : Int) (r8 : Int) (r9 : Bool) (w : World) (h : spec_RecBack.f k a0_0 a0_1 a0_2 a0_3 a0_4 a0_5 a0_6 a0_7 a1 = some (r1, r2, r3, r4, r5, r6, r7, r8, r9)) :
    Calls Try.prog 39 #[.agg #[.int .i64 a0_0, .int .i64 a0_1, .int .i64 a0_2, .int .i64 a0_3, .int .i64 a0_4, .int .i64 a0_5, .int .i64 a0_6, .int .i64 a0_7], .int .i64 a1] w fun e w' => e = .returned (.tuple #[.agg #[.int .i64 r1, .int .i64 r2, .int .i64 r3, .int .i64 r4, .int .i64 r5, .int .i64 r6, .int .i64 r7, .int .i64 r8], .bool r9]) ∧ Below w.heap.size w w' := by
  have e := leo_uniq (spec_RecBack.mono _ _ _ _ _ _ _ _ _) h (specBack_k _ _ _ _ _ _ _ _ _ 0)
  unfold backD at e
  by_cases hk : backB a0_0 a0_1 a0_2 a0_3 a0_4 a0_5 a0_6 a0_7 a1 = true
  · rw [if_pos hk] at e
    simp only [Prod.mk.injEq] at e
    obtain ⟨rfl, rfl, rfl, rfl, rfl, rfl, rfl, rfl, rfl⟩ := e
    exact specRecBack_yes _ _ _ _ _ _ _ _ _ _ hk
  · rw [if_neg hk] at e
    simp only [Prod.mk.injEq] at e
    obtain ⟨rfl, rfl, rfl, rfl, rfl, rfl, rfl, rfl, rfl⟩ := e
    exact specRecBack_no _ _ _ _ _ _ _ _ _ _ hk
theorem implBack_k (k tx p s o n pv nx prev : Int) (j : Nat) : impl_RecBack.f (j + 2) k tx p s o n pv nx prev = some (backD k tx p s o n pv nx prev) := by
  unfold impl_RecBack.f backD backB
  rw [impl_RecOk_k]
  simp only [Option.bind_some, in_f, impl_Rec_back.f]
  cases recOkB k tx p s o n pv nx <;> by_cases h1 : k = 1 <;> by_cases h2 : k = 2 <;> cases inB prev 0 150 <;> simp_all
theorem impl_RecBack.calls (k : Nat) (a0_0 : Int) (a0_1 : Int) (a0_2 : Int) (a0_3 : Int) (a0_4 : Int) (a0_5 : Int) (a0_6 : Int) (a0_7 : Int) (a1 : Int) (r1 : Int) (r2 : Int) (r3 : Int) (r4 : Int) (r5 : Int) (r6 : Int) (r7 : Int) (r8 : Int) (r9 : Bool) (w : World) (h : impl_RecBack.f k a0_0 a0_1 a0_2 a0_3 a0_4 a0_5 a0_6 a0_7 a1 = some (r1, r2, r3, r4, r5, r6, r7, r8, r9)) :
    Calls Try.prog 40 #[.agg #[.int .i64 a0_0, .int .i64 a0_1, .int .i64 a0_2, .int .i64 a0_3, .int .i64 a0_4, .int .i64 a0_5, .int .i64 a0_6, .int .i64 a0_7], .int .i64 a1] w fun e w' => e = .returned (.tuple #[.agg #[.int .i64 r1, .int .i64 r2, .int .i64 r3, .int .i64 r4, .int .i64 r5, .int .i64 r6, .int .i64 r7, .int .i64 r8], .bool r9]) ∧ Below w.heap.size w w' := by
  have e := leo_uniq (impl_RecBack.mono _ _ _ _ _ _ _ _ _) h (implBack_k _ _ _ _ _ _ _ _ _ 0)
  unfold backD at e
  by_cases hk : backB a0_0 a0_1 a0_2 a0_3 a0_4 a0_5 a0_6 a0_7 a1 = true
  · rw [if_pos hk] at e
    simp only [Prod.mk.injEq] at e
    obtain ⟨rfl, rfl, rfl, rfl, rfl, rfl, rfl, rfl, rfl⟩ := e
    exact implRecBack_yes _ _ _ _ _ _ _ _ _ _ hk
  · rw [if_neg hk] at e
    simp only [Prod.mk.injEq] at e
    obtain ⟨rfl, rfl, rfl, rfl, rfl, rfl, rfl, rfl, rfl⟩ := e
    exact implRecBack_no _ _ _ _ _ _ _ _ _ _ hk
end Go.Proofs.Ytcefiblpnegepaa.Pr
