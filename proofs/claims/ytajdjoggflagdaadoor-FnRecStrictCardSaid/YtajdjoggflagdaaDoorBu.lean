/- Words on a drawn text (from the words that print.sh OWN=1 lays). -/
import Derived.Test.YtajdjoggflagdaaDoorWLogC
namespace Go.Proofs.YtajdjoggflagdaaDoorW.PrintWords
open Go.RowKit
theorem far_slice {n c g : Nat} {A : Option Addr} (hne : some g ≠ (Value.slice A n c).ownBlock) : ∀ ad, A = some ad → 0 < n → ad.block ≠ g := by
  rintro ad rfl _ rfl
  exact hne (by simp [Value.ownBlock])
theorem add_block (a : Addr) (i : Nat) : (a.add i).block = a.block := by unfold Addr.add; split <;> rfl
theorem keep_cell {w W : World} {g : Nat} (h : KeepBut w W g none) {a : Addr} {v : Value} (hc : w.cell? a = some v) (hne : a.block ≠ g) : W.cell? a = some v := by
  have := h.2 a.block (World.block_lt_of_cell? w a hc) hne (by simp)
  simpa [World.cell?, this] using hc
end Go.Proofs.YtajdjoggflagdaaDoorW.PrintWords
