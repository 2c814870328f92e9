/- What the text of a page is, told by the reference. -/
import Derived.Test.YtajdjoggflagdaaDoorPTx
import Derived.Test.YtajdjoggflagdaaDoorPrPT
namespace Go.Proofs.YtajdjoggflagdaaDoor.T
open Go.RowKit Go.Proofs.YtajdjoggflagdaaDoorW.PrintWords Go.Proofs.YtajdjoggflagdaaDoor.Pr
set_option linter.unusedSimpArgs false
set_option linter.unusedVariables false
theorem dec_tab : (List.range 10).all (fun i => (strOfNums [((48 : Int) + (i : Int)) % 256]).data.toList == [UInt8.ofNat (48 + i)]) = true := by decide
theorem l6Dec_one (n : Int) (h0 : 0 ≤ n) (h1 : n < 10) (k : Nat) : spec_l6Dec.f (k + 1) n = some (dgt n) := by
  rw [spec_l6Dec.f, if_neg (by omega), if_neg (by omega), if_pos h1, T.wrap_small (by omega) (by omega), dgt_one n h0 h1]
  obtain ⟨i, rfl⟩ : ∃ i : Nat, n = i := ⟨n.toNat, by omega⟩
  have h := dec_tab
  rw [List.all_eq_true] at h
  have h2 := h i (by simp; omega)
  rw [beq_iff_eq] at h2
  have h3 : strOfNums [((48 : Int) + (i : Int)) % 256] = ⟨#[UInt8.ofNat (48 + i)]⟩ := by
    generalize strOfNums [((48 : Int) + (i : Int)) % 256] = s at h2
    cases s with
    | mk d =>
      congr 1
      exact Array.toList_inj.mp h2
  rw [Int.toNat_natCast, h3]
theorem specPT_l (a b : Int) (l : List Int) (hl : l.length ≤ 3) (hb0 : 0 ≤ b) (hb : b ≤ 3) (hv : ∀ k : Nat, k < l.length → 0 ≤ rd l k ∧ rd l k ≤ 9) : ∀ (d k i : Nat) (x : ByteArray), i + d = l.length → d + 1 < k → x.data.toList = txtL b (l.take i) → ∃ s, spec_PageText.l0 k x (i : Int) a b l = some s ∧ s.data.toList = txtL b l
  | 0, k + 1, i, x, hi, hk, hx => by
    rw [spec_PageText.l0, if_neg (by omega)]
    exact ⟨x, rfl, by rw [hx, List.take_of_length_le (by omega)]⟩
  | d + 1, k + 1, i, x, hi, hk, hx => by
    obtain ⟨k, rfl⟩ : ∃ m, k = m + 1 := ⟨k - 1, by omega⟩
    have h2 := hv i (by omega)
    have h3 : x.size = 1 + 2 * i := by
      have := txt_len b l hb0 hb hv i (by omega)
      rw [← hx] at this
      exact this
    have h4 := dgt_size (rd l i) h2.1 (by omega)
    have h5 : (x ++ (⟨#[32]⟩ : ByteArray)).size = x.size + 1 := by rw [ByteArray.size_append]; rfl
    rw [spec_PageText.l0, if_pos (by omega), if_pos (by omega), if_pos (by omega), l6Dec_one _ h2.1 (by omega)]
    simp only [Option.bind_some]
    rw [if_pos (by omega), T.wrap_small (by omega) (by omega), show (i : Int) + 1 = ((i + 1 : Nat) : Int) by omega]
    refine specPT_l a b l hl hb0 hb hv d (k + 1) (i + 1) _ (by omega) (by omega) ?_
    rw [txt_take b l i (by omega), ← hx]
    simp
theorem spec_PageText_k (a b : Int) (l : List Int) (hl : l.length ≤ 9223372036854775807) (k : Nat) (hk : l.length + 5 < k) : spec_PageText.f k a b l = some (pageTextB a b l) := by
  unfold spec_PageText.f pageTextB
  rw [spec_PageOk_k a b l hl k (by omega)]
  simp only [Option.bind_some]
  cases ok : pageOkB a b l with
  | false => rfl
  | true =>
    obtain ⟨hl3, hb0, hb3, hv⟩ := pageOkB_own ok
    obtain ⟨k, rfl⟩ : ∃ m, k = m + 1 := ⟨k - 1, by omega⟩
    rw [if_pos rfl, if_pos rfl, l6Dec_one b hb0 (by omega)]
    simp only [Option.bind_some]
    obtain ⟨s, e1, e2⟩ := specPT_l a b l (by omega) hb0 hb3 hv l.length (k + 1) 0 (dgt b) (by omega) (by omega) (by simp [txtL])
    have e1' : spec_PageText.l0 (k + 1) (dgt b) 0 a b l = some s := e1
    rw [e1']
    congr 1
    have : s.data = (txtL b l).toArray := by rw [← e2]
    cases s
    simp_all
end Go.Proofs.YtajdjoggflagdaaDoor.T
