/- What FnPageCopy tells is true. -/
import Derived.Test.YtajdjoggflagdaaDoorTxP
import Derived.Test.YtajdjoggflagdaaDoorPrLawPC
namespace Go.Proofs.YtajdjoggflagdaaDoor.T
open Go.RowKit Go.Proofs.YtajdjoggflagdaaDoorW.PrintWords Go.Proofs.YtajdjoggflagdaaDoor.Pr
set_option linter.unusedSimpArgs false
set_option linter.unusedVariables false
theorem rd_nat {l : List Int} {i : Nat} (h : i < l.length) : rd l i = l[i] := by simp [rd, List.getD_eq_getElem?_getD, List.getElem?_eq_getElem h]
theorem okSet {a b : Int} {l : List Int} {i : Nat} {m : Int} (hb : b ≠ 0) (h : pageOkB a b l = true) (hi : i < l.length) (hm : 0 ≤ m ∧ m ≤ 9) : pageOkB a b (l.set i m) = true := by
  rw [pageOkB_at] at h ⊢
  simp only [Bool.and_eq_true, beq_iff_eq, Bool.not_eq_true', List.length_set] at h ⊢
  refine ⟨h.1, ?_⟩
  have hbb : (b == 0) = false := by simp [hb]
  rw [List.any_eq_false] at h ⊢
  intro x hx
  obtain ⟨j, hj, rfl⟩ := List.getElem_of_mem hx
  rw [List.getElem_set]
  split
  · unfold badAt
    rw [hbb]
    have : inB m 0 9 = true := inB_iff.mpr hm
    simp [this]
  · exact h.2 _ (List.getElem_mem _)
theorem PureFnPageCopy (l l1 : List Int) (hby : Bytes l) (hby1 : Bytes l1) : ∃ k, laws_FnPageCopy.f k l l1 = some true := by
  refine ⟨22, ?_⟩
  have key : ∀ x : Bool, laws_FnPageCopy.j0 22 l l1 x = some true := by
    intro x
    rw [show (22 : Nat) = 21 + 1 from rfl, laws_FnPageCopy.j0]
    cases x with
    | true => rfl
    | false =>
      simp only [Bool.false_eq_true, if_false]
      obtain ⟨a, b, v, e, h3⟩ := DrawPageText_k l hby 15
      simp only [e, Option.bind_some, impl_PageText.f]
      rw [spec_PageText_k a b v (by omega) _ (by omega)]
      simp only [Option.bind_some, if_true]
      have done : laws_FnPageCopy.j1 21 l1 (pageTextB a b v) true a b v = some true := by
        rw [show (21 : Nat) = 20 + 1 from rfl, laws_FnPageCopy.j1]
        simp only [if_true]
        rw [spec_PageText_k a b v (by omega) _ (by omega)]
        simp
      by_cases hs : (pageTextB a b v).toList = []
      · rw [if_pos hs]
        exact done
      · rw [if_neg hs]
        by_cases hb : b = 0
        · rw [show (b == 0) = true by simp [hb]]
          exact done
        · rw [show (b == 0) = false by simp [hb], show (21 : Nat) = 20 + 1 from rfl, laws_FnPageCopy.j1]
          have ok : pageOkB a b v = true := by
            cases q : pageOkB a b v with
            | true => rfl
            | false => exact absurd (by rw [pageText_list, q]; rfl) hs
          obtain ⟨hl3, hb0, hb3, hv⟩ := pageOkB_own ok
          simp only [Bool.false_eq_true, if_false, Option.bind_some, List.length_nil, List.nil_append, hl3]
          have hr : 0 ≤ ((l1.length : Int) % 3) ∧ ((l1.length : Int) % 3) < 3 := by omega
          obtain ⟨i, hi⟩ : ∃ i : Nat, ((l1.length : Int) % 3) = i := ⟨((l1.length : Int) % 3).toNat, by omega⟩
          rw [hi] at hr ⊢
          have hx := hv i (by omega)
          rw [if_pos (by omega), if_pos hr.1, if_pos (by omega), if_pos (by omega), T.wrap_small (by omega) (by omega), Int.tmod_eq_emod_of_nonneg (by omega), Int.toNat_natCast]
          simp only [impl_PageText.f, Option.bind_some]
          have hm : 0 ≤ (rd v i + 1) % 10 ∧ (rd v i + 1) % 10 ≤ 9 := by omega
          have ok2 := okSet hb ok (show i < v.length by omega) hm
          have hne : ¬ (pageTextB a b (v.set i ((rd v i + 1) % 10))).toList = (pageTextB a b v).toList := by
            rw [pageText_list, pageText_list, ok, ok2, if_pos rfl, if_pos rfl]
            intro he
            have h2 := (txt_inj ok2 ok he).2
            have h4 := congrArg (fun z => z[i]?) h2
            have hiv : i < v.length := by omega
            simp only [List.getElem?_set, if_true] at h4
            rw [if_pos hiv, List.getElem?_eq_getElem hiv] at h4
            have h5 := Option.some.inj h4
            rw [rd_nat (by omega)] at h5 hx
            omega
          rw [if_neg hne, pageText_list]
          have : pageOkB a 4 v = false := by
            rw [pageOkB_at]
            simp [inB]
          rw [this]
          rfl
  unfold laws_FnPageCopy.f
  split
  · exact key _
  · exact key _
/-- The walk of the law: its printed contract, at the plain law. -/
theorem FnPageCopy_walk (A : Option Addr) (c : Nat) (l : List Int) (A1 : Option Addr) (c1 : Nat) (l1 : List Int) (w : World) (hc : l.length ≤ c) (hC : Kd.C (Kd.int .u8) w A l.length l) (hby : Bytes l) (hc1 : l1.length ≤ c1) (hC1 : Kd.C (Kd.int .u8) w A1 l1.length l1) (hby1 : Bytes l1) :
    Calls Tryd.prog 3 #[.slice A l.length c, .slice A1 l1.length c1] w fun e w' => e = .returned (.bool true) ∧ Below w.heap.size w w' := by
  obtain ⟨k, h⟩ := PureFnPageCopy l l1 hby hby1
  exact laws_FnPageCopy.calls k A c l A1 c1 l1 true w hC hc hC1 hc1 h ⟨rfl⟩
end Go.Proofs.YtajdjoggflagdaaDoor.T
