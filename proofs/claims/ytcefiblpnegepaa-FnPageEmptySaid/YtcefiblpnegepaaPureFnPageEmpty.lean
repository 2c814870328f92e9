/- What FnPageEmpty tells is true. -/
import Derived.Test.YtcefiblpnegepaaDrawPage
import Derived.Test.YtcefiblpnegepaaPrLawPE
namespace Go.Proofs.Ytcefiblpnegepaa.T
open Go.RowKit Go.Proofs.YtcefiblpnegepaaW.PrintWords Go.Proofs.Ytcefiblpnegepaa.Pr
set_option linter.unusedSimpArgs false
set_option linter.unusedVariables false
theorem DrawPageEmpty_k (l : List Int) (hby : Bytes l) (k : Nat) : ∃ a b v, spec_DrawPageEmpty.f (k + 6) l = some (a, b, v) ∧ v.length ≤ 3 := by
  obtain ⟨b, hf, hl, hm⟩ := open_f l
  have hb : Bytes b := fun x hx => hby x (hm x hx)
  unfold spec_DrawPageEmpty.f
  obtain ⟨q1, q2, q3, p, e1, h3, p1, p2⟩ := l71P_k b hb hl 0 (by omega) (by omega) k
  obtain ⟨r0, f0, _⟩ := pick_k b hb hl p 2 (by omega) (by omega) (by omega) (k + 5)
  have f0' : spec_l6Rd_pick.f (k + 6) b p 2 = some (r0, p + 1) := f0
  simp only [hf, Option.bind_some, e1, f0']
  split
  · rw [if_pos (by omega)]
    exact ⟨_, _, _, rfl, by simp⟩
  · exact ⟨_, _, _, rfl, h3⟩
theorem pageNew_empty (k : Nat) : impl_PageEmpty.f (k + 5) 0 0 (List.replicate 3 0) = some true := by
  rw [impl_PageEmpty_k _ _ _ (by simp) _ (by simp)]
  rfl
/-- The sum of values from nought to nine is nought just if they all are. -/
theorem sum_l (x4 : Bool) (a b : Int) (l : List Int) (k : Nat) (hv : ∀ x ∈ l, 0 ≤ x ∧ x ≤ 9) (hl : l.length ≤ 3) : ∀ (d i : Nat) (s : Int), i + d = l.length → 0 ≤ s → s ≤ 9 * i → (s = 0 ↔ allZeroB (l.take i) = true) →
    laws_FnPageEmpty.l0 (d + (k + 6)) x4 s i a b l = some (x4 == allZeroB l) := by
  intro d
  induction d with
  | zero =>
    intro i s hi h0 h9 hz
    rw [show 0 + (k + 6) = (k + 5) + 1 by omega]
    rw [laws_FnPageEmpty.l0, if_neg (by omega)]
    have e : (s == 0) = allZeroB l := by
      rw [List.take_of_length_le (by omega)] at hz
      by_cases h : s = 0
      · rw [hz.mp h]
        simp [h]
      · have h2 : allZeroB l = false := by
          cases hq : allZeroB l with
          | false => rfl
          | true => exact absurd (hz.mpr hq) h
        rw [h2]
        simp [h]
    rw [e]
    have e2 : impl_PageNew.f = some (0, 0, List.replicate 3 0) := by
      unfold impl_PageNew.f
      rw [if_pos (by omega)]
    simp only [e2, Option.bind_some, pageNew_empty]
    cases x4 <;> cases allZeroB l <;> rfl
  | succ d ih =>
    intro i s hi h0 h9 hz
    rw [show d + 1 + (k + 6) = (d + (k + 6)) + 1 by omega]
    rw [laws_FnPageEmpty.l0, if_pos (by omega), if_pos (by omega)]
    have hr : 0 ≤ rd l i ∧ rd l i ≤ 9 := by
      have : rd l i = l[i] := by simp [rd, List.getD_eq_getElem?_getD, List.getElem?_eq_getElem (show i < l.length by omega)]
      rw [this]
      exact hv _ (List.getElem_mem _)
    have w1 : wrap64 (s + rd l i) = s + rd l i := T.wrap_small (by omega) (by omega)
    have w2 : wrap64 ((i : Int) + 1) = ((i + 1 : Nat) : Int) := by rw [T.wrap_small (by omega) (by omega)]; omega
    rw [w1, w2]
    have ih' := ih (i + 1) (s + rd l i) (by omega) (by omega) (by omega) (by
      have e := any_take_succ l badZero i (by omega)
      unfold allZeroB at hz ⊢
      rw [e]
      have hb : badZero (rd l i) = true ↔ rd l i ≠ 0 := by unfold badZero; simp
      constructor
      · intro h
        have h1 : s = 0 := by omega
        have h2 : rd l i = 0 := by omega
        have h3 := hz.mp h1
        have h4 : badZero (rd l i) = false := by unfold badZero; simp [h2]
        rw [h4]
        simpa using h3
      · intro h
        simp only [Bool.not_eq_true', Bool.or_eq_false_iff] at h
        have h1 := hz.mpr (by simp [h.1])
        have h2 : rd l i = 0 := by
          have := h.2
          unfold badZero at this
          simpa using this
        omega)
    exact ih'
theorem PureFnPageEmpty (l : List Int) (hby : Bytes l) : ∃ k, laws_FnPageEmpty.f k l = some true := by
  refine ⟨20, ?_⟩
  unfold laws_FnPageEmpty.f
  by_cases hlen : (l.length : Int) > 1048576
  · rw [if_pos hlen]
  · rw [if_neg hlen]
    obtain ⟨a, b, v, e, h3⟩ := DrawPageEmpty_k l hby 14
    simp only [e, Option.bind_some]
    rw [impl_PageEmpty_k _ _ _ (by omega) _ (by omega), spec_PageEmpty_k _ _ _ (by omega) _ (by omega), spec_PageOk_k _ _ _ (by omega) _ (by omega)]
    simp only [Option.bind_some, bne_self_eq_false, Bool.false_eq_true, if_false]
    rw [show (20 : Nat) = 19 + 1 from rfl, laws_FnPageEmpty.j0]
    by_cases hp : pageOkB a b v = true
    · simp only [hp, Bool.not_true, Bool.false_eq_true, if_false]
      have hl3 : v.length = 3 := by
        rw [pageOkB_at] at hp
        simp only [Bool.and_eq_true, beq_iff_eq] at hp
        exact hp.1.2
      have hv : ∀ x ∈ v, 0 ≤ x ∧ x ≤ 9 := by
        intro x hx
        rw [pageOkB_at] at hp
        simp only [Bool.and_eq_true, Bool.not_eq_true'] at hp
        have h2 := hp.2
        rw [List.any_eq_false] at h2
        have h4 := h2 x hx
        unfold badAt at h4
        simp only [Bool.not_eq_true, Bool.or_eq_false_iff, Bool.not_eq_false'] at h4
        simpa [inB] using h4.1
      have h := sum_l (pageEmptyB a b v) a b v 10 hv h3 3 0 0 (by omega) (by omega) (by omega) (by simp [allZeroB])
      have h' : laws_FnPageEmpty.l0 19 (pageEmptyB a b v) 0 0 a b v = some (pageEmptyB a b v == allZeroB v) := h
      rw [h']
      unfold pageEmptyB
      rw [hp]
      simp
    · have hp2 : pageOkB a b v = false := by simpa using hp
      simp only [hp2, Bool.not_false, if_true]
      rw [spec_PageEmpty_k _ _ _ (by omega) _ (by omega)]
      simp
end Go.Proofs.Ytcefiblpnegepaa.T
