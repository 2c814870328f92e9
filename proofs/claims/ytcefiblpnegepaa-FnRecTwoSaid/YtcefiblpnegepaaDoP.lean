/- What RecDo comes to, the reference's and the program's own; and the laws' own comparisons. -/
import Derived.Test.YtcefiblpnegepaaOks
import Derived.Test.YtcefiblpnegepaaPrSRD
import Derived.Test.YtcefiblpnegepaaPrIRD
import Derived.Test.YtcefiblpnegepaaPrM
namespace Go.Proofs.Ytcefiblpnegepaa.T
open Go.RowKit Go.Proofs.YtcefiblpnegepaaW.PrintWords Go.Proofs.Ytcefiblpnegepaa.Pr
set_option linter.unusedSimpArgs false
set_option linter.unusedVariables false
/-- May the record be done to the page? -/
def mayB (a b : Int) (l : List Int) (k tx p s o n pv nx lsn : Int) : Bool := pageOkB a b l && recOkB k tx p s o n pv nx && (k == 1 || k == 2 || k == 6) && inB lsn (a + 1) 150
/-- Whose the page is then. -/
def ownOf (b s n : Int) : Int := if s ≥ 0 then b else n
/-- What it has then. -/
def valsOf (l : List Int) (s n : Int) : List Int := if s ≥ 0 then l.set s.toNat n else if n = 0 then List.replicate 3 0 else l
def didB (a b : Int) (l : List Int) (k tx p s o n pv nx lsn : Int) : Bool := mayB a b l k tx p s o n pv nx lsn && pageOkB lsn (ownOf b s n) (valsOf l s n)
def doB (a b : Int) (l : List Int) (k tx p s o n pv nx lsn : Int) : Int × Int × List Int × Bool :=
  if didB a b l k tx p s o n pv nx lsn = true then (lsn, ownOf b s n, valsOf l s n, true) else (0, 0, [], false)
theorem pageOkB_len {a b : Int} {l : List Int} (h : pageOkB a b l = true) : l.length = 3 := by
  rw [pageOkB_at] at h
  simp only [Bool.and_eq_true, beq_iff_eq] at h
  exact h.1.2
theorem pageOkB_lsn {a b : Int} {l : List Int} (h : pageOkB a b l = true) : 0 ≤ a ∧ a ≤ 150 := by
  rw [pageOkB_at] at h
  simp only [Bool.and_eq_true, beq_iff_eq] at h
  simpa [inB] using h.1.1.1
theorem recOkB_slot {k tx p s o n pv nx : Int} (h : recOkB k tx p s o n pv nx = true) : -1 ≤ s ∧ s ≤ 2 := by
  unfold recOkB at h
  simp only [Bool.and_eq_true] at h
  obtain ⟨⟨h1, _⟩, _⟩ := h
  split at h1
  · simp [inB] at h1; omega
  · split at h1
    · simp [inB] at h1; omega
    · split at h1
      · simp [inB] at h1; omega
      · split at h1
        · simp [inB] at h1; omega
        · split at h1
          · simp [inB] at h1; omega
          · simp at h1
theorem l2Changes_f (k : Int) : spec_l2Changes.f k = some (k == 1 || k == 2 || k == 6) := by
  unfold spec_l2Changes.f
  split
  · simp_all
  · split <;> simp_all
theorem changes_f (k a1 a2 a3 a4 a5 a6 a7 : Int) : impl_Rec_changes.f k a1 a2 a3 a4 a5 a6 a7 = some (k == 1 || k == 2 || k == 6) := by
  unfold impl_Rec_changes.f
  split
  · simp_all
  · split <;> simp_all
theorem l1Copy_f (a b : Int) (l : List Int) (h : l.length < 17592186044416) : spec_l1Copy.f a b l = some (a, b, l) := by
  unfold spec_l1Copy.f
  simp [h]
theorem copied_f (a b : Int) (l : List Int) (h : l.length < 17592186044416) : impl_Page_copied.f a b l = some (a, b, l) := by
  unfold impl_Page_copied.f
  simp [Clone_k l h]
theorem l2Do_f (a b : Int) (l : List Int) (k tx p s o n pv nx lsn : Int) (hl : l.length = 3) (hs : s ≤ 2) : spec_l2Do.f a b l k tx p s o n pv nx lsn = some (lsn, ownOf b s n, valsOf l s n) := by
  unfold spec_l2Do.f ownOf valsOf
  rw [l1Copy_f a b l (by omega)]
  simp only [Option.bind_some, hl]
  by_cases h : s ≥ 0
  · simp only [if_pos h]
    rw [if_pos (by omega)]
  · simp only [if_neg h]
    by_cases h2 : n = 0
    · simp [h2]
    · simp [h2]
theorem with_f (a b : Int) (l : List Int) (k tx p s o n pv nx : Int) (hl : l.length = 3) (hs : s ≤ 2) : impl_Page_with.f a b l k tx p s o n pv nx = some (a, ownOf b s n, valsOf l s n) := by
  unfold impl_Page_with.f ownOf valsOf
  rw [copied_f a b l (by omega)]
  simp only [Option.bind_some, hl]
  by_cases h : s ≥ 0
  · simp only [if_pos h]
    rw [if_pos (by omega)]
  · simp only [if_neg h]
    by_cases h2 : n = 0
    · simp [h2]
    · simp [h2]
theorem valsOf_len (l : List Int) (s n : Int) (h : l.length = 3) : (valsOf l s n).length = 3 := by
  unfold valsOf
  repeat' split
  all_goals simp [h]
theorem specDo_k (a b : Int) (l : List Int) (k tx p s o n pv nx lsn : Int) (hl : l.length ≤ 9223372036854775807) (j : Nat) (hj : l.length + 6 < j) : spec_RecDo.f j a b l k tx p s o n pv nx lsn = some (doB a b l k tx p s o n pv nx lsn) := by
  obtain ⟨j, rfl⟩ : ∃ i, j = i + 2 := ⟨j - 2, by omega⟩
  unfold spec_RecDo.f doB didB mayB
  rw [spec_PageOk_k a b l hl _ (by omega), spec_RecOk_k, l2Changes_f, l6In_f]
  simp only [Option.bind_some, spec_RecDo.j0]
  by_cases h1 : pageOkB a b l = true
  · by_cases h2 : recOkB k tx p s o n pv nx = true
    · by_cases h3 : (k == 1 || k == 2 || k == 6) = true
      · have h5 := pageOkB_lsn h1
        rw [T.wrap_small (by omega) (by omega)]
        by_cases h4 : inB lsn (a + 1) 150 = true
        · have h6 := valsOf_len l s n (pageOkB_len h1)
          simp only [h1, h2, h3, h4, if_true, Bool.not_true, Bool.and_self, Bool.true_and, l2Do_f a b l k tx p s o n pv nx lsn (pageOkB_len h1) (recOkB_slot h2).2, Option.bind_some, Bool.false_eq_true, if_false]
          rw [spec_PageOk_k _ _ _ (by omega) _ (by omega)]
          simp only [Option.bind_some]
          split <;> simp_all
        · simp [h1, h2, h3, h4]
      · simp [h1, h2, h3]
    · simp [h1, h2]
  · simp [h1]
theorem implDo_k (a b : Int) (l : List Int) (k tx p s o n pv nx lsn : Int) (hl : l.length ≤ 9223372036854775807) (j : Nat) (hj : l.length + 6 < j) : impl_RecDo.f j a b l k tx p s o n pv nx lsn = some (doB a b l k tx p s o n pv nx lsn) := by
  obtain ⟨j, rfl⟩ : ∃ i, j = i + 2 := ⟨j - 2, by omega⟩
  unfold impl_RecDo.f doB didB mayB
  rw [impl_PageOk_k a b l hl _ (by omega), impl_RecOk_k, changes_f]
  simp only [Option.bind_some, impl_RecDo.j0]
  by_cases h1 : pageOkB a b l = true
  · by_cases h2 : recOkB k tx p s o n pv nx = true
    · by_cases h3 : (k == 1 || k == 2 || k == 6) = true
      · have h6 := valsOf_len l s n (pageOkB_len h1)
        simp only [h1, h2, h3, if_true, Bool.true_and]
        by_cases h7 : lsn ≤ a
        · have h4 : inB lsn (a + 1) 150 = false := by simp [inB]; omega
          simp [h7, h4]
        · rw [if_neg h7]
          by_cases h8 : lsn > 150
          · have h4 : inB lsn (a + 1) 150 = false := by simp [inB]; omega
            simp [h8, h4]
          · have h4 : inB lsn (a + 1) 150 = true := by simp [inB]; omega
            simp only [h8, h4, decide_false, Bool.false_eq_true, if_false, with_f a b l k tx p s o n pv nx (pageOkB_len h1) (recOkB_slot h2).2, Option.bind_some, Bool.true_and]
            rw [impl_PageOk_k _ _ _ (by omega) _ (by omega)]
            simp only [Option.bind_some]
            split <;> simp_all
      · simp [h1, h2, h3]
    · simp [h1, h2]
  · simp [h1]
theorem ltInts_l (a b : List Int) (hl : a.length = b.length) (hm : a.length ≤ 9223372036854775807) : ∀ (d k i : Nat), i + d = a.length → d < k → laws_ltInts.l0 k a b i = some (decide (a.drop i = b.drop i))
  | 0, k + 1, i, hi, _ => by
    unfold laws_ltInts.l0
    rw [if_neg (by omega), List.drop_of_length_le (by omega), List.drop_of_length_le (by omega)]
    rfl
  | d + 1, k + 1, i, hi, hk => by
    unfold laws_ltInts.l0
    rw [if_pos (by omega), if_pos (by omega), if_pos (by omega), T.wrap_small (by omega) (by omega)]
    have ih := ltInts_l a b hl hm d k (i + 1) (by omega) (by omega)
    rw [show (i : Int) + 1 = ((i + 1 : Nat) : Int) by omega, ih, rd_drop (l := a) (i := i) (by omega), rd_drop (l := b) (i := i) (by omega)]
    by_cases h : rd a i = rd b i
    · simp [h]
    · simp [h]
theorem ltInts_k (a b : List Int) (hm : a.length ≤ 9223372036854775807) (k : Nat) (hk : a.length < k) : laws_ltInts.f k a b = some (decide (a = b)) := by
  unfold laws_ltInts.f
  by_cases h : a.length = b.length
  · rw [if_pos (by omega)]
    have e := ltInts_l a b h hm a.length k 0 (by omega) hk
    simpa using e
  · rw [if_neg (by omega)]
    have : a ≠ b := fun e => h (by rw [e])
    simp [this]
theorem ltPage_k (a b : Int) (l : List Int) (a1 b1 : Int) (l1 : List Int) (hm : l.length ≤ 9223372036854775807) (k : Nat) (hk : l.length < k) : laws_ltPage.f k a b l a1 b1 l1 = some (decide (a = a1 ∧ b = b1 ∧ l = l1)) := by
  unfold laws_ltPage.f
  rw [ltInts_k l l1 hm k hk]
  by_cases h1 : a = a1 <;> by_cases h2 : b = b1 <;> simp [h1, h2]
theorem ltHas_k (a b : Int) (l : List Int) (a1 b1 : Int) (l1 : List Int) (hm : l.length ≤ 9223372036854775807) (k : Nat) (hk : l.length < k) : laws_ltHas.f k a b l a1 b1 l1 = some (decide (b = b1 ∧ l = l1)) := by
  unfold laws_ltHas.f
  rw [ltInts_k l l1 hm k hk]
  by_cases h2 : b = b1 <;> simp [h2]
theorem doB_no {a b : Int} {l : List Int} {k tx p s o n pv nx lsn : Int} (h : didB a b l k tx p s o n pv nx lsn = false) : doB a b l k tx p s o n pv nx lsn = (0, 0, [], false) := by
  unfold doB
  rw [if_neg (by simp [h])]
theorem doB_yes {a b : Int} {l : List Int} {k tx p s o n pv nx lsn : Int} (h : didB a b l k tx p s o n pv nx lsn = true) : doB a b l k tx p s o n pv nx lsn = (lsn, ownOf b s n, valsOf l s n, true) := by
  unfold doB
  rw [if_pos h]
theorem didB_kind {a b : Int} {l : List Int} {k tx p s o n pv nx lsn : Int} (h : (k == 1 || k == 2 || k == 6) = false) : didB a b l k tx p s o n pv nx lsn = false := by
  unfold didB mayB
  rw [h]
  simp
theorem didB_far {a b : Int} {l : List Int} {k tx p s o n pv nx lsn : Int} (h : lsn ≤ a ∨ 150 < lsn) : didB a b l k tx p s o n pv nx lsn = false := by
  unfold didB mayB
  have h4 : inB lsn (a + 1) 150 = false := by simp [inB]; omega
  rw [h4]
  simp
theorem doB_len (a b : Int) (l : List Int) (k tx p s o n pv nx lsn : Int) : (doB a b l k tx p s o n pv nx lsn).2.2.1.length ≤ 3 := by
  unfold doB
  split
  · rename_i h
    unfold didB mayB at h
    simp only [Bool.and_eq_true] at h
    have h2 := pageOkB_len h.1.1.1.1
    have h3 := valsOf_len l s n h2
    simp [h3]
  · simp
theorem didB_lsn {a b : Int} {l : List Int} {k tx p s o n pv nx lsn : Int} (h : didB a b l k tx p s o n pv nx lsn = true) : a < lsn ∧ lsn ≤ 150 ∧ 0 ≤ a := by
  unfold didB mayB at h
  simp only [Bool.and_eq_true] at h
  have h2 := pageOkB_lsn h.1.1.1.1
  have h3 := h.1.2
  simp [inB] at h3
  omega
end Go.Proofs.Ytcefiblpnegepaa.T
