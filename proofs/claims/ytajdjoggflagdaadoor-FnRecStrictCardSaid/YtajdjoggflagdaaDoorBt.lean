/- Words on bytes of a text (from the words that print.sh OWN=1 lays). -/
import Derived.Test.YtajdjoggflagdaaDoorWLogC
namespace Go.Proofs.YtajdjoggflagdaaDoorW.PrintWords
open Go.RowKit
theorem bt_at (s : ByteArray) (i : Int) : ∀ h : i.toNat < s.size, ((s[i.toNat]'h).toNat : Int) = bt s i := fun h => by simp [bt, h]
theorem bt_range (s : ByteArray) (i : Int) : 0 ≤ bt s i ∧ bt s i ≤ 255 := by
  unfold bt
  split
  · rename_i h
    have := (s[i.toNat]'h).toNat_lt
    omega
  · omega
end Go.Proofs.YtajdjoggflagdaaDoorW.PrintWords
