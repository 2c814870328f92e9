/- The drawing of a page, a record and its number comes to an end. -/
import Derived.Test.YtcefiblpnegepaaDrawPg
import Derived.Test.YtcefiblpnegepaaRec71
import Derived.Test.YtcefiblpnegepaaPrDRD
namespace Go.Proofs.Ytcefiblpnegepaa.T
open Go.RowKit Go.Proofs.YtcefiblpnegepaaW.PrintWords Go.Proofs.Ytcefiblpnegepaa.Pr
set_option linter.unusedSimpArgs false
set_option linter.unusedVariables false
theorem DrawRecDo_k (l : List Int) (hby : Bytes l) (k : Nat) :
    ∃ a b v a0 a1 a2 a3 a4 a5 a6 a7 n, spec_DrawRecDo.f (k + 6) l = some (a, b, v, a0, a1, a2, a3, a4, a5, a6, a7, n) ∧ v.length ≤ 3 := by
  obtain ⟨b, hf, hl, hm⟩ := open_f l
  have hb : Bytes b := fun x hx => hby x (hm x hx)
  unfold spec_DrawRecDo.f
  obtain ⟨q1, q2, q3, p, e1, h3, p1, p2⟩ := l71P_k b hb hl 0 (by omega) (by omega) k
  obtain ⟨a0, a1, a2, a3, a4, a5, a6, a7, p', e2, p3, p4⟩ := l71_k b hb hl p (by omega) (by omega) (k + 4)
  have e2' : spec_l71Rec.f (k + 6) b p = some (a0, a1, a2, a3, a4, a5, a6, a7, p') := e2
  have K : ∀ q n : Int, 0 ≤ q → q ≤ 1000 → 1 ≤ n → ∃ r, spec_l6Rd_pick.f (k + 6) b q n = some (r, q + 1) := fun q n h1 h2 h3 => by
    obtain ⟨r, hr, _⟩ := pick_k b hb hl q n h1 (by omega) h3 (k + 5)
    exact ⟨r, hr⟩
  obtain ⟨r0, f0⟩ := K p' 2 (by omega) (by omega) (by omega)
  obtain ⟨r1, f1⟩ := K (p' + 1) 5 (by omega) (by omega) (by omega)
  obtain ⟨r2, f2⟩ := K (p' + 1 + 1) 3 (by omega) (by omega) (by omega)
  obtain ⟨r3, f3⟩ := K (p' + 1 + 1 + 1) 3 (by omega) (by omega) (by omega)
  obtain ⟨r4, f4⟩ := K (p' + 1 + 1 + 1 + 1) 10 (by omega) (by omega) (by omega)
  obtain ⟨r5, f5⟩ := K (p' + 1 + 1 + 1 + 1 + 1) 6 (by omega) (by omega) (by omega)
  obtain ⟨r6, f6⟩ := K (p' + 1 + 1 + 1 + 1 + 1 + 1) 24 (by omega) (by omega) (by omega)
  obtain ⟨r7, f7⟩ := K (p' + 1) 6 (by omega) (by omega) (by omega)
  obtain ⟨r8, f8⟩ := K (p' + 1 + 1) 24 (by omega) (by omega) (by omega)
  simp only [hf, Option.bind_some, e1, e2', f0, f1, f2, f3, f4, f5, f6, f7, f8]
  split
  · exact ⟨_, _, _, _, _, _, _, _, _, _, _, _, rfl, h3⟩
  · exact ⟨_, _, _, _, _, _, _, _, _, _, _, _, rfl, h3⟩
end Go.Proofs.Ytcefiblpnegepaa.T
