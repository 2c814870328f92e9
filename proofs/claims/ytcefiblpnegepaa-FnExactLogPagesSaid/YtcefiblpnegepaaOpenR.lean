/- How an argument that is a slice of records is read. -/
import Derived.Test.YtcefiblpnegepaaOpen
import Derived.Test.YtcefiblpnegepaaPrK
namespace Go.Proofs.Ytcefiblpnegepaa.T
open Go.RowKit Go.Proofs.YtcefiblpnegepaaW.PrintWords Go.WideShapes Go.ChangeShapes Go.Deep Go.Proofs.Ytcefiblpnegepaa.Pr
set_option linter.unusedVariables false
variable {P : Program}
/-- A record of ints. -/
def Rec64 (x : S58) : Prop := I64 x.f0 ∧ I64 x.f1 ∧ I64 x.f2 ∧ I64 x.f3 ∧ I64 x.f4 ∧ I64 x.f5 ∧ I64 x.f6 ∧ I64 x.f7
theorem opens_rec {t : TypeId} {fs : Array Field} (ht : P.underlying t = some (.struct fs)) (hone : oneCellFields P fs = true) (hC : P.cellsOf t = fs.size) (hn : fs.size = 8) (hall : allInts P fs = true) :
    Opens P t k58 Rec64 := by
  intro H enc w base sp held fuel cs x h
  obtain ⟨xs, hl, hcs, hg⟩ := opens_ints_struct ht hone hC (allInts_at hall) h
  rw [hn] at hl
  match xs, hl with
  | [a0, a1, a2, a3, a4, a5, a6, a7], _ =>
    refine ⟨⟨a0, a1, a2, a3, a4, a5, a6, a7⟩, ?_, ?_⟩
    · subst hcs
      exact k58_mk w ⟨a0, a1, a2, a3, a4, a5, a6, a7⟩
    · exact ⟨hg _ (by simp), hg _ (by simp), hg _ (by simp), hg _ (by simp), hg _ (by simp), hg _ (by simp), hg _ (by simp), hg _ (by simp)⟩
theorem open_recs {t e : TypeId} {fs : Array Field} (ht : P.underlying t = some (.slice e)) (he : P.underlying e = some (.struct fs)) (hone : oneCellFields P fs = true) (hC : P.cellsOf e = fs.size) (hn : fs.size = 8) (hall : allInts P fs = true)
    {H : Type} {enc : TypeId × Value → H} {w : World} {base b0 : Nat} {r : Reach} {sp : Nat → Bool} {held : Bool} {v : Value} {d : DataW H} {p : List MemPlace}
    (hv : Value.okWide P w r b0 t v) (h : DataW.Trod enc P w base sp held t v d p) :
    ∃ (A : Option Addr) (l : List S58) (c : Nat), v = .slice A l.length c ∧ l.length ≤ c ∧ Kd.C k58 w A l.length l ∧ ∀ x ∈ l, Rec64 x := by
  obtain ⟨a, len, cap, rfl⟩ := okWide_slice ht hv
  obtain ⟨fuel, hf⟩ := h
  obtain ⟨l, ⟨A, c, hcs, hl, hC⟩, hg⟩ := opens_slice (d := k58) ht (by rw [hC, hn]; rfl) (opens_rec he hone hC hn hall) hf
  simp [Value.cells] at hcs
  obtain ⟨rfl, rfl, rfl⟩ := hcs
  exact ⟨_, l, _, rfl, hl, hC, hg⟩
end Go.Proofs.Ytcefiblpnegepaa.T
