import Derived.Test.YtcefiblpnegepaaQRd
import Derived.Test.YtcefiblpnegepaaQPrL71
namespace Go.Proofs.Ytcefiblpnegepaa.T
open Go.RowKit Go.Proofs.YtcefiblpnegepaaW.PrintWords Go.Proofs.Ytcefiblpnegepaa.Pr
set_option linter.unusedSimpArgs false
set_option linter.unusedVariables false
theorem l71j_k (b : List Int) (hb : Bytes b) (hl : b.length ≤ 2000) (p : Int) (h0 : 0 ≤ p) (hp : p ≤ 1099511627000) (k : Nat) (a0 a1 a2 a3 a4 a5 a6 a7 : Int) :
    ∃ c0 c1 c2 c3 c4 c5 c6 c7 p', spec_l71Rec.j0 (k + 2) b p a0 a1 a2 a3 a4 a5 a6 a7 = some (c0, c1, c2, c3, c4, c5, c6, c7, p') ∧ p ≤ p' ∧ p' ≤ p + 2 := by
  rw [show k + 2 = (k + 1) + 1 from rfl]; simp only [spec_l71Rec.j0]; obtain ⟨r, hr, _⟩ := pick_k b hb hl p 24 h0 (by omega) (by omega) k; obtain ⟨s6, h6, _⟩ := pick_k b hb hl (p + 1) 6 (by omega) (by omega) (by omega) k; obtain ⟨s13, h13, _⟩ := pick_k b hb hl (p + 1) 13 (by omega) (by omega) (by omega) k; obtain ⟨s3, h3, _⟩ := pick_k b hb hl (p + 1) 3 (by omega) (by omega) (by omega) k; simp only [hr, Option.bind_some, h6, h13, h3]
  repeat' split
  all_goals exact ⟨_, _, _, _, _, _, _, _, _, rfl, by omega, by omega⟩
theorem l71_k (b : List Int) (hb : Bytes b) (hl : b.length ≤ 2000) (p : Int) (h0 : 0 ≤ p) (hp : p ≤ 1099511626000) (k : Nat) :
    ∃ c0 c1 c2 c3 c4 c5 c6 c7 p', spec_l71Rec.f (k + 2) b p = some (c0, c1, c2, c3, c4, c5, c6, c7, p') ∧ p ≤ p' ∧ p' ≤ p + 10 := by
  have K : ∀ q n : Int, 0 ≤ q → q ≤ 1099511627776 → 1 ≤ n → ∃ r, spec_l6Rd_pick.f (k + 2) b q n = some (r, q + 1) ∧ 0 ≤ r ∧ r < n := fun q n h1 h2 h3 => pick_k b hb hl q n h1 h2 h3 (k + 1)
  have J : ∀ q a0 a1 a2 a3 a4 a5 a6 a7 : Int, p ≤ q → q ≤ p + 8 → ∃ c0 c1 c2 c3 c4 c5 c6 c7 p', spec_l71Rec.j0 (k + 2) b q a0 a1 a2 a3 a4 a5 a6 a7 = some (c0, c1, c2, c3, c4, c5, c6, c7, p') ∧ p ≤ p' ∧ p' ≤ p + 10 := by
    intro q a0 a1 a2 a3 a4 a5 a6 a7 h1 h2; obtain ⟨c0, c1, c2, c3, c4, c5, c6, c7, p', h, h3, h4⟩ := l71j_k b hb hl q (by omega) (by omega) k a0 a1 a2 a3 a4 a5 a6 a7; exact ⟨c0, c1, c2, c3, c4, c5, c6, c7, p', h, by omega, by omega⟩
  unfold spec_l71Rec.f
  obtain ⟨r1, e1, _⟩ := K p 6 (by omega) (by omega) (by omega); obtain ⟨r2, e2, _⟩ := K (p + 1) 3 (by omega) (by omega) (by omega); obtain ⟨r3, e3, _⟩ := K (p + 1 + 1) 5 (by omega) (by omega) (by omega); simp only [e1, e2, e3, Option.bind_some]; obtain ⟨r4, e4, _⟩ := K (p + 1 + 1 + 1) 5 (by omega) (by omega) (by omega); simp only [e4, Option.bind_some]; obtain ⟨r5, e5, _⟩ := K (p + 1 + 1 + 1 + 1) 3 (by omega) (by omega) (by omega); obtain ⟨r6, e6, _⟩ := K (p + 1 + 1 + 1 + 1) 4 (by omega) (by omega) (by omega); obtain ⟨r7, e7, _⟩ := K (p + 1 + 1 + 1 + 1 + 1) 10 (by omega) (by omega) (by omega); obtain ⟨r8, e8, _⟩ := K (p + 1 + 1 + 1 + 1 + 1) 4 (by omega) (by omega) (by omega); obtain ⟨r9, e9, _⟩ := K (p + 1 + 1 + 1 + 1 + 1 + 1) 10 (by omega) (by omega) (by omega); obtain ⟨ra, ea, _⟩ := K (p + 1 + 1 + 1 + 1 + 1 + 1) 4 (by omega) (by omega) (by omega); simp only [e5, e6, e7, e8, e9, ea, Option.bind_some]
  split
  · exact J _ _ _ _ _ _ _ _ _ (by omega) (by omega)
  · split
    · exact J _ _ _ _ _ _ _ _ _ (by omega) (by omega)
    · split
      · exact J _ _ _ _ _ _ _ _ _ (by omega) (by omega)
      · split
        · exact J _ _ _ _ _ _ _ _ _ (by omega) (by omega)
        · exact J _ _ _ _ _ _ _ _ _ (by omega) (by omega)
end Go.Proofs.Ytcefiblpnegepaa.T
