/- spec.l2Num of a number's own text. -/
import Derived.Test.YtajdjoggflagdaaDoorSRa
namespace Go.Proofs.YtajdjoggflagdaaDoor.T
open Go.RowKit Go.Proofs.YtajdjoggflagdaaDoorW.PrintWords Go.Proofs.YtajdjoggflagdaaDoor.Pr
set_option linter.unusedSimpArgs false
set_option linter.unusedVariables false
theorem dec_mem9 : ∀ (u : Nat) (x : UInt8), x ∈ Lib.decDigits u → x.toNat ≤ 57 := by
  intro u
  induction u using Nat.strongRecOn with
  | ind u ih =>
    intro x hx
    by_cases h : u < 10
    · rw [dec1 h] at hx
      simp only [List.mem_singleton] at hx
      subst hx
      rw [ofNat_dig h]; omega
    · rw [dec2 h] at hx
      rcases List.mem_append.mp hx with hx | hx
      · exact ih (u / 10) (by omega) x hx
      · simp only [List.mem_singleton] at hx
        subst hx
        rw [ofNat_dig (by omega)]; omega
theorem l2Num_v (s : ByteArray) (hs : s.size ≤ 3) (hall : ∀ c ∈ s.data.toList, 48 ≤ c.toNat ∧ c.toNat ≤ 57) : ∀ (d k i n : Nat), i + d = s.size → d < k → n < 10 ^ i →
    spec_l2Num.l0 k s (n : Int) (i : Int) = some (((s.data.toList.drop i).foldl (fun a c => 10 * a + (c.toNat - 48)) n : Nat) : Int)
  | 0, k + 1, i, n, hi, hk, hn => by
    have hl : s.data.toList.length = s.size := rfl
    rw [spec_l2Num.l0, if_neg (by omega), List.drop_of_length_le (by omega)]
    rfl
  | d + 1, k + 1, i, n, hi, hk, hn => by
    have hl : s.data.toList.length = s.size := rfl
    have hlt : i < s.data.toList.length := by omega
    have e2 : s.data.toList.drop i = s.data.toList[i] :: s.data.toList.drop (i + 1) := List.drop_eq_getElem_cons hlt
    have hb := bt_data s i (by omega)
    have hc := hall _ (List.getElem_mem hlt)
    have hp : 10 ^ i ≤ 100 := by
      have : i = 0 ∨ i = 1 ∨ i = 2 := by omega
      rcases this with rfl | rfl | rfl <;> decide
    have hp2 : 10 ^ (i + 1) = 10 * 10 ^ i := by rw [Nat.pow_succ]; omega
    rw [spec_l2Num.l0, if_pos (by omega), if_pos (by omega), if_neg (by rw [hb]; omega), if_neg (by rw [hb]; omega), hb, e2, List.foldl_cons]
    have e3 : wrap64 (wrap64 (10 * (n : Int)) + ((((s.data.toList[i]).toNat : Nat) : Int) - 48) % 256) = ((10 * n + ((s.data.toList[i]).toNat - 48) : Nat) : Int) := by
      rw [T.wrap_small (x := 10 * (n : Int)) (by omega) (by omega), T.wrap_small (by omega) (by omega)]
      omega
    rw [e3, T.wrap_small (x := (i : Int) + 1) (by omega) (by omega), show (i : Int) + 1 = ((i + 1 : Nat) : Int) by omega]
    exact l2Num_v s hs hall d k (i + 1) _ (by omega) (by omega) (by omega)
theorem l2Num_dec (n : Int) (h0 : -1 ≤ n) (h1 : n < 1000) (k : Nat) : spec_l2Num.f (k + 4) (decB n) = some n := by
  have e : (decB n).data.toList = Lib.itoa n := rfl
  unfold spec_l2Num.f
  by_cases hn : n = -1
  · subst hn
    have : Lib.itoa (-1) = [45, 49] := by
      unfold Lib.itoa
      rw [if_pos (by omega), show (-1 : Int).natAbs = 1 from rfl, dec1 (by omega)]
      rfl
    rw [if_pos (by rw [ba_listR, e, this])]
  · have h2 : Lib.itoa n = Lib.decDigits n.toNat := by
      unfold Lib.itoa
      rw [if_neg (by omega)]
    have hd : (decB n).data.toList = Lib.decDigits n.toNat := e.trans h2
    have hne : ¬ (decB n).toList = ([45, 49] : List UInt8) := by
      rw [ba_listR, hd]
      intro h
      have := dec_mem n.toNat 45 (by rw [h]; exact List.mem_cons_self)
      exact absurd this (by decide)
    have hs : (decB n).size ≤ 3 := decB_size n h0 h1
    have hs1 : 1 ≤ (decB n).size := by
      have hl : (decB n).data.toList.length = (decB n).size := rfl
      rw [hd] at hl
      by_cases h : n.toNat < 10
      · rw [decLen1 h] at hl; omega
      · rw [dec2 h, List.length_append] at hl
        simp at hl
        omega
    rw [if_neg hne, l6In_f]
    simp only [Option.bind_some]
    rw [if_pos (inB_iff.mpr (by omega))]
    have h3 := l2Num_v (decB n) hs (fun c hc => by rw [hd] at hc; exact ⟨dec_mem _ c hc, dec_mem9 _ c hc⟩) (decB n).size (k + 4) 0 0 (by omega) (by omega) (by decide)
    have h4 := val_dec n.toNat
    unfold valL at h4
    rw [List.drop_zero, hd, h4] at h3
    have h5 : spec_l2Num.l0 (k + 4) (decB n) 0 0 = some ((n.toNat : Nat) : Int) := h3
    rw [h5]
    congr 1
    omega
end Go.Proofs.YtajdjoggflagdaaDoor.T
