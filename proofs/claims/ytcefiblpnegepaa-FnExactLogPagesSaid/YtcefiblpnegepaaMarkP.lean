/- What the laws' own marks tell: markRecS, markIntS, heldIntS are total, and what is marked is held. -/
import Derived.Test.YtcefiblpnegepaaLogP
import Derived.Test.YtcefiblpnegepaaOpenR
import Derived.Test.YtcefiblpnegepaaIntS
import Derived.Test.YtcefiblpnegepaaPrMR
namespace Go.Proofs.Ytcefiblpnegepaa.T
open Go.RowKit Go.Proofs.YtcefiblpnegepaaW.PrintWords Go.Proofs.Ytcefiblpnegepaa.Pr
set_option linter.unusedSimpArgs false
set_option linter.unusedVariables false
theorem markRec_step {n : Nat} {X : Int} {a : List S41} {f : List S41 → Option (Int × List S41)} (ha : a.length = n) (h : ∀ y : List S41, y.length = n → ∃ l, f y = some (X, l)) : ∃ l, (some a).bind f = some (X, l) := by
  rw [Option.bind_some]
  exact h a ha
theorem wrap8 (x : Int) (h0 : 0 ≤ x) (h1 : x ≤ 4611686018427387904) : wrap64 (x + 1) = x + 1 ∧ wrap64 (x + 1 + 1) = x + 2 ∧ wrap64 (x + 2 + 1) = x + 3 ∧ wrap64 (x + 3 + 1) = x + 4 ∧ wrap64 (x + 4 + 1) = x + 5 ∧ wrap64 (x + 5 + 1) = x + 6 ∧ wrap64 (x + 6 + 1) = x + 7 ∧ wrap64 (x + 7 + 1) = x + 8 :=
  ⟨T.wrap_small (by omega) (by omega), by rw [T.wrap_small (by omega) (by omega)]; omega, by rw [T.wrap_small (by omega) (by omega)]; omega, by rw [T.wrap_small (by omega) (by omega)]; omega, by rw [T.wrap_small (by omega) (by omega)]; omega, by rw [T.wrap_small (by omega) (by omega)]; omega, by rw [T.wrap_small (by omega) (by omega)]; omega, by rw [T.wrap_small (by omega) (by omega)]; omega⟩
theorem wrapN (i : Nat) (h : i < 4611686018427387904) : wrap64 ((i : Int) + 1) = ((i + 1 : Nat) : Int) := by
  rw [T.wrap_small (by omega) (by omega)]
  omega
theorem markRecS_l : ∀ (d i k : Nat) (x : Int) (l : List S41), i + d = l.length → d < k → 0 ≤ x → x + 8 * (d : Int) ≤ 4611686018427387904 → l.length ≤ 4611686018427387904 → ∃ l', laws_markRecS.l0 k l x i = some (x + 8 * (d : Int), l')
  | 0, i, k + 1, x, l, hi, _, _, _, _ => by
    rw [laws_markRecS.l0, if_neg (by omega)]
    exact ⟨l, by simp⟩
  | d + 1, i, k + 1, x, l, hi, hk, hx, hs, hl => by
    have p1 : (i : Int) < (l.length : Int) := by omega
    have p2 : (0 : Int) ≤ (i : Int) := by omega
    have e : x + 8 * ((d + 1 : Nat) : Int) = (x + 8) + 8 * (d : Int) := by omega
    obtain ⟨a1, a2, a3, a4⟩ : i + 1 + d = l.length ∧ d < k ∧ 0 ≤ x + 8 ∧ x + 8 + 8 * (d : Int) ≤ 4611686018427387904 := by omega
    obtain ⟨w1, w2, w3, w4, w5, w6, w7, w8⟩ := wrap8 x hx (by omega)
    have wi := wrapN i (by omega)
    rw [laws_markRecS.l0, if_pos p1, if_pos p2, w1, w2, w3, w4, w5, w6, w7, w8, wi, e]
    refine markRec_step (n := l.length) List.length_set fun y1 h1 => ?_
    (try dsimp only)
    refine markRec_step (n := l.length) ((List.length_set).trans h1) fun y2 h2 => ?_
    (try dsimp only)
    refine markRec_step (n := l.length) ((List.length_set).trans h2) fun y3 h3 => ?_
    (try dsimp only)
    refine markRec_step (n := l.length) ((List.length_set).trans h3) fun y4 h4 => ?_
    (try dsimp only)
    refine markRec_step (n := l.length) ((List.length_set).trans h4) fun y5 h5 => ?_
    (try dsimp only)
    refine markRec_step (n := l.length) ((List.length_set).trans h5) fun y6 h6 => ?_
    (try dsimp only)
    refine markRec_step (n := l.length) ((List.length_set).trans h6) fun y7 h7 => ?_
    (try dsimp only)
    exact markRecS_l d (i + 1) k (x + 8) _ (a1.trans (h7.symm.trans List.length_set.symm)) a2 a3 a4 (by rw [List.length_set, h7]; exact hl)
theorem markRecS_k (l : List S41) (hl : l.length ≤ 4398046511104) (k : Nat) (hk : l.length < k) : ∃ l', laws_markRecS.f k l 1 = some (1 + 8 * (l.length : Int), l') := by
  unfold laws_markRecS.f
  exact markRecS_l l.length 0 k 1 l (by omega) hk (by omega) (by omega) (by omega)
theorem rd_set (l : List Int) (i j : Nat) (x : Int) (hi : i < l.length) : rd (l.set i x) (j : Int) = if i = j then x else rd l (j : Int) := by
  unfold rd
  simp only [Int.toNat_natCast, List.getD_eq_getElem?_getD, List.getElem?_set]
  by_cases h : i = j
  · subst h
    simp [hi]
  · simp [h]
theorem markIntS_l : ∀ (d i k : Nat) (x : Int) (l : List Int), i + d = l.length → d < k → 0 ≤ x → x + (d : Int) ≤ 4611686018427387904 → l.length ≤ 4611686018427387904 → ∃ l', laws_markIntS.l0 k l x i = some (x + (d : Int), l') ∧ l'.length = l.length ∧ ∀ j : Nat, rd l' (j : Int) = if i ≤ j ∧ j < l.length then x + ((j : Int) - (i : Int)) else rd l (j : Int)
  | 0, i, k + 1, x, l, hi, _, _, _, _ => by
    rw [laws_markIntS.l0, if_neg (by omega)]
    exact ⟨l, by simp, rfl, fun j => by rw [if_neg (by omega)]⟩
  | d + 1, i, k + 1, x, l, hi, hk, hx, hs, hl => by
    have w1 : wrap64 (x + 1) = x + 1 := T.wrap_small (by omega) (by omega)
    have wi : wrap64 ((i : Int) + 1) = ((i + 1 : Nat) : Int) := by rw [T.wrap_small (by omega) (by omega)]; omega
    rw [laws_markIntS.l0, if_pos (by omega), if_pos (by omega), w1, wi, Int.toNat_natCast]
    obtain ⟨l', e1, e2, e3⟩ := markIntS_l d (i + 1) k (x + 1) (l.set i x) (by rw [List.length_set]; omega) (by omega) (by omega) (by omega) (by rw [List.length_set]; exact hl)
    refine ⟨l', by rw [e1]; congr 2; omega, by rw [e2, List.length_set], fun j => ?_⟩
    rw [e3 j, List.length_set, rd_set _ _ _ _ (by omega)]
    by_cases h : i = j
    · subst h
      rw [if_neg (by omega), if_pos rfl, if_pos (by omega)]
      omega
    · rw [if_neg h]
      by_cases h2 : i + 1 ≤ j ∧ j < l.length
      · rw [if_pos h2, if_pos (by omega)]
        omega
      · rw [if_neg h2, if_neg (by omega)]
theorem heldIntS_l (l : List Int) (a : Int) (h0 : 0 ≤ a) (h1 : a ≤ 4611686018427387904) (hl : l.length ≤ 4398046511104) (hr : ∀ j : Nat, j < l.length → rd l (j : Int) = a + (j : Int)) : ∀ (d i k : Nat), i + d = l.length → d < k → laws_heldIntS.l0 k l (a + (i : Int)) i = some (a + (l.length : Int))
  | 0, i, k + 1, hi, _ => by
    rw [laws_heldIntS.l0, if_neg (by omega)]
    congr 1
    omega
  | d + 1, i, k + 1, hi, hk => by
    have w1 : wrap64 (a + (i : Int) + 1) = a + ((i + 1 : Nat) : Int) := by rw [T.wrap_small (by omega) (by omega)]; omega
    have wi : wrap64 ((i : Int) + 1) = ((i + 1 : Nat) : Int) := by rw [T.wrap_small (by omega) (by omega)]; omega
    rw [laws_heldIntS.l0, if_pos (by omega), if_pos (by omega), if_pos (hr i (by omega)), w1, wi]
    exact heldIntS_l l a h0 h1 hl hr d (i + 1) k (by omega) (by omega)
/-- What is marked from one on is held. -/
theorem markHeld_k (l : List Int) (hl : l.length ≤ 4398046511104) (k : Nat) (hk : l.length < k) : ∃ l', laws_markIntS.f k l 1 = some (1 + (l.length : Int), l') ∧ laws_heldIntS.f k l' 1 = some (1 + (l.length : Int)) := by
  obtain ⟨l', e1, e2, e3⟩ := markIntS_l l.length 0 k 1 l (by omega) hk (by omega) (by omega) (by omega)
  refine ⟨l', e1, ?_⟩
  unfold laws_heldIntS.f
  have h := heldIntS_l l' 1 (by omega) (by omega) (by omega) (fun j hj => by rw [e3 j, if_pos (by omega)]; omega) l'.length 0 k (by omega) (by omega)
  rw [e2] at h
  exact h
theorem eqIntS_same (a : List Int) (hm : a.length ≤ 9223372036854775807) (k : Nat) (hk : a.length < k) : laws_eqIntS.f k a a = some true := by
  have h := leo_le (laws_eqIntS.mono a a) (by simpa using eqIntS_f a a hm) (k - (a.length + 1))
  rw [show a.length + 1 + (k - (a.length + 1)) = k by omega] at h
  exact h
theorem lastB_bd (t : Int) : ∀ l : List S41, 0 ≤ lastR t l ∧ lastR t l ≤ (l.length : Int)
  | [] => by simp [lastR]
  | x :: r => by
    have ih := lastB_bd t r
    unfold lastR
    split
    · split <;> simp <;> omega
    · simp
      omega
theorem lastB_0 (l : List S41) (t : Int) : 0 ≤ lastB l t := (lastB_bd t l.reverse).1
theorem lastB_n (l : List S41) (t : Int) : lastB l t ≤ (l.length : Int) := by
  have h := (lastB_bd t l.reverse).2
  rw [List.length_reverse] at h
  exact h
/-- In a log that is ok, the one ahead of a record lies ahead of it. -/
theorem prev_bd {l : List S41} (h : logOkB l = true) (i : Nat) (hi : i < l.length) : 0 ≤ (rd_T41 l (i : Int)).f6 ∧ (rd_T41 l (i : Int)).f6 ≤ (i : Int) := by
  unfold logOkB at h
  simp only [Bool.and_eq_true, List.all_eq_true] at h
  have h2 := h.2 i (by simpa using hi)
  unfold okAt at h2
  simp only [Bool.and_eq_true, beq_iff_eq] at h2
  have e := h2.1.1.2
  rw [e]
  have b := lastB_n (l.take i) (rd_T41 l (i : Int)).f1
  rw [List.length_take] at b
  exact ⟨lastB_0 _ _, by omega⟩
theorem logOk_len {l : List S41} (h : logOkB l = true) : l.length ≤ 150 := by
  unfold logOkB at h
  simp only [Bool.and_eq_true, decide_eq_true_eq] at h
  exact h.1
/-- The chain of records ahead, from x on; n bounds its length. -/
def chainB (l : List S41) : Nat → Int → List Int
  | 0, _ => []
  | n + 1, x => if 0 < x then x :: chainB l n (rd_T41 l (x - 1)).f6 else []
theorem chainB_len (l : List S41) : ∀ n x, (chainB l n x).length ≤ n
  | 0, _ => by simp [chainB]
  | n + 1, x => by
    have := chainB_len l n (rd_T41 l (x - 1)).f6
    unfold chainB
    split <;> simp <;> omega
end Go.Proofs.Ytcefiblpnegepaa.T
