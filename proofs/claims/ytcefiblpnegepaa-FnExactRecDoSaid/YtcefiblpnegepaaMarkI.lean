/- What the laws' own marks on slices of ints tell: markIntS is total, and what is marked is held. -/
import Derived.Test.YtcefiblpnegepaaIntS
namespace Go.Proofs.Ytcefiblpnegepaa.T
open Go.RowKit Go.Proofs.YtcefiblpnegepaaW.PrintWords Go.Proofs.Ytcefiblpnegepaa.Pr
set_option linter.unusedSimpArgs false
set_option linter.unusedVariables false
theorem rd_set (l : List Int) (i j : Nat) (x : Int) (hi : i < l.length) : rd (l.set i x) (j : Int) = if i = j then x else rd l (j : Int) := by
  unfold rd
  simp only [Int.toNat_natCast, List.getD_eq_getElem?_getD, List.getElem?_set]
  by_cases h : i = j
  · subst h
    simp [hi]
  · simp [h]
theorem markIntS_l : ∀ (d i k : Nat) (x : Int) (l : List Int), i + d = l.length → d < k → 0 ≤ x → x + (d : Int) ≤ 4611686018427387904 → l.length ≤ 4611686018427387904 → ∃ l', laws_markIntS.l0 k l x i = some (x + (d : Int), l') ∧ l'.length = l.length ∧ ∀ j : Nat, rd l' (j : Int) = if i ≤ j ∧ j < l.length then x + ((j : Int) - (i : Int)) else rd l (j : Int)
  | 0, i, k + 1, x, l, hi, _, _, _, _ => by
    rw [laws_markIntS.l0, if_neg (by omega)]
    exact ⟨l, by simp, rfl, fun j => by rw [if_neg (by omega)]⟩
  | d + 1, i, k + 1, x, l, hi, hk, hx, hs, hl => by
    have w1 : wrap64 (x + 1) = x + 1 := T.wrap_small (by omega) (by omega)
    have wi : wrap64 ((i : Int) + 1) = ((i + 1 : Nat) : Int) := by rw [T.wrap_small (by omega) (by omega)]; omega
    rw [laws_markIntS.l0, if_pos (by omega), if_pos (by omega), w1, wi, Int.toNat_natCast]
    obtain ⟨l', e1, e2, e3⟩ := markIntS_l d (i + 1) k (x + 1) (l.set i x) (by rw [List.length_set]; omega) (by omega) (by omega) (by omega) (by rw [List.length_set]; exact hl)
    refine ⟨l', by rw [e1]; congr 2; omega, by rw [e2, List.length_set], fun j => ?_⟩
    rw [e3 j, List.length_set, rd_set _ _ _ _ (by omega)]
    by_cases h : i = j
    · subst h
      rw [if_neg (by omega), if_pos rfl, if_pos (by omega)]
      omega
    · rw [if_neg h]
      by_cases h2 : i + 1 ≤ j ∧ j < l.length
      · rw [if_pos h2, if_pos (by omega)]
        omega
      · rw [if_neg h2, if_neg (by omega)]
theorem heldIntS_l (l : List Int) (a : Int) (h0 : 0 ≤ a) (h1 : a ≤ 4611686018427387904) (hl : l.length ≤ 4398046511104) (hr : ∀ j : Nat, j < l.length → rd l (j : Int) = a + (j : Int)) : ∀ (d i k : Nat), i + d = l.length → d < k → laws_heldIntS.l0 k l (a + (i : Int)) i = some (a + (l.length : Int))
  | 0, i, k + 1, hi, _ => by
    rw [laws_heldIntS.l0, if_neg (by omega)]
    congr 1
    omega
  | d + 1, i, k + 1, hi, hk => by
    have w1 : wrap64 (a + (i : Int) + 1) = a + ((i + 1 : Nat) : Int) := by rw [T.wrap_small (by omega) (by omega)]; omega
    have wi : wrap64 ((i : Int) + 1) = ((i + 1 : Nat) : Int) := by rw [T.wrap_small (by omega) (by omega)]; omega
    rw [laws_heldIntS.l0, if_pos (by omega), if_pos (by omega), if_pos (hr i (by omega)), w1, wi]
    exact heldIntS_l l a h0 h1 hl hr d (i + 1) k (by omega) (by omega)
end Go.Proofs.Ytcefiblpnegepaa.T
