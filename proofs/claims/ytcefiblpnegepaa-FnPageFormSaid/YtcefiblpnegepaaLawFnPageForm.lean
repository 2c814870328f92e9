/- What FnPageForm tells is true. -/
import Derived.Test.YtcefiblpnegepaaDrawPg
import Derived.Test.YtcefiblpnegepaaPrLawPF
namespace Go.Proofs.Ytcefiblpnegepaa.T
open Go.RowKit Go.Proofs.YtcefiblpnegepaaW.PrintWords Go.Proofs.Ytcefiblpnegepaa.Pr
set_option linter.unusedSimpArgs false
set_option linter.unusedVariables false
theorem DrawPageOk_k (l : List Int) (hby : Bytes l) (k : Nat) : ∃ a b v, spec_DrawPageOk.f (k + 6) l = some (a, b, v) ∧ v.length ≤ 3 := by
  obtain ⟨b, hf, hl, hm⟩ := open_f l
  have hb : Bytes b := fun x hx => hby x (hm x hx)
  unfold spec_DrawPageOk.f
  obtain ⟨q1, q2, q3, p, e1, h3, p1, p2⟩ := l71P_k b hb hl 0 (by omega) (by omega) k
  obtain ⟨r0, f0, _⟩ := pick_k b hb hl p 5 (by omega) (by omega) (by omega) (k + 5)
  have f0' : spec_l6Rd_pick.f (k + 6) b p 5 = some (r0, p + 1) := f0
  obtain ⟨r1, f1, g1, g2⟩ := pick_k b hb hl (p + 1) 3 (by omega) (by omega) (by omega) (k + 5)
  have f1' : spec_l6Rd_pick.f (k + 6) b (p + 1) 3 = some (r1, p + 1 + 1) := f1
  simp only [hf, Option.bind_some, e1, f0', f1']
  split
  · rw [if_pos (by simp; omega)]
    exact ⟨_, _, _, rfl, h3⟩
  · exact ⟨_, _, _, rfl, h3⟩
theorem pageForm_zero {a b : Int} {v : List Int} (h : pageOkB a b v = true) : pageOkB a 0 v = pageEmptyB a b v := by
  unfold pageEmptyB
  rw [h]
  unfold pageOkB at h ⊢
  simp only [Bool.and_eq_true] at h
  rw [h.1.1.1, h.1.2]
  simp [inB]
theorem pageForm_short {a b : Int} {v : List Int} (h : v.length ≠ 3) : pageOkB a b v = false := by
  rw [pageOkB_at]
  have : (v.length == 3) = false := by simp [h]
  rw [this]
  simp
theorem pageForm_ten {a b : Int} {v : List Int} {i : Nat} (h : i < v.length) : pageOkB a b (v.set i 10) = false := by
  rw [pageOkB_at, any_at (k := i) (by simpa using h) (by
    have : rd (v.set i 10) i = 10 := by simp [rd, List.getD_eq_getElem?_getD, h]
    rw [this]
    simp [badAt, inB])]
  simp
theorem PureFnPageForm (l l1 : List Int) (hby : Bytes l) (hby1 : Bytes l1) : ∃ k, laws_FnPageForm.f k l l1 = some true := by
  refine ⟨22, ?_⟩
  have key : ∀ x : Bool, laws_FnPageForm.j0 22 l l1 x = some true := by
    intro x
    rw [show (22 : Nat) = 21 + 1 from rfl, laws_FnPageForm.j0]
    cases x with
    | true => rfl
    | false =>
      simp only [Bool.false_eq_true, if_false]
      obtain ⟨a, b, v, e, h3⟩ := DrawPageOk_k l hby 15
      simp only [e, Option.bind_some]
      rw [impl_PageOk_k _ _ _ (by omega) _ (by omega), spec_PageOk_k _ _ _ (by omega) _ (by omega)]
      simp only [Option.bind_some, bne_self_eq_false, Bool.false_eq_true, if_false]
      rw [show (21 : Nat) = 20 + 1 from rfl, laws_FnPageForm.j1]
      cases hp : pageOkB a b v with
      | false =>
        simp only [Bool.not_false, if_true]
        rw [spec_PageOk_k _ _ _ (by omega) _ (by omega), hp]
        rfl
      | true =>
        have hl3 : v.length = 3 := by
          rw [pageOkB_at] at hp
          simp only [Bool.and_eq_true, beq_iff_eq] at hp
          exact hp.1.2
        have hr : 0 ≤ ((l1.length : Int) % 3) ∧ ((l1.length : Int) % 3) < 3 := by omega
        obtain ⟨i, hi⟩ : ∃ i : Nat, ((l1.length : Int) % 3) = i := ⟨((l1.length : Int) % 3).toNat, by omega⟩
        rw [hi] at hr ⊢
        simp only [Bool.not_true, Bool.false_eq_true, if_false, Option.bind_some, List.nil_append, List.length_nil]
        rw [if_pos (by omega), if_pos (by omega), if_pos (by omega), if_pos (by omega)]
        rw [impl_PageOk_k _ _ _ (by omega) _ (by omega), impl_PageEmpty_k _ _ _ (by omega) _ (by omega), pageForm_zero hp]
        simp only [Option.bind_some, beq_self_eq_true, if_true]
        rw [impl_PageOk_k _ _ _ (by simp; omega) _ (by simp; omega), pageForm_short (by simp; omega)]
        simp only [Option.bind_some, Bool.false_eq_true, if_false, Int.toNat_natCast]
        rw [impl_PageOk_k _ _ _ (by simp; omega) _ (by simp; omega), pageForm_ten (by omega)]
        have e2 : impl_PageNew.f = some (0, 0, List.replicate 3 0) := by
          unfold impl_PageNew.f
          rw [if_pos (by omega)]
        simp only [Option.bind_some, Bool.false_eq_true, if_false, e2]
        rw [impl_PageOk_k _ _ _ (by simp) _ (by simp)]
        rfl
  unfold laws_FnPageForm.f
  split
  · exact key _
  · exact key _
/-- The walk of the law: its printed contract, at the plain law. -/
theorem FnPageForm_walk (A : Option Addr) (c : Nat) (l : List Int) (A1 : Option Addr) (c1 : Nat) (l1 : List Int) (w : World) (hc : l.length ≤ c) (hC : Kd.C (Kd.int .u8) w A l.length l) (hby : Bytes l) (hc1 : l1.length ≤ c1) (hC1 : Kd.C (Kd.int .u8) w A1 l1.length l1) (hby1 : Bytes l1) :
    Calls Try.prog 3 #[.slice A l.length c, .slice A1 l1.length c1] w fun e w' => e = .returned (.bool true) ∧ Below w.heap.size w w' := by
  obtain ⟨k, h⟩ := PureFnPageForm l l1 hby hby1
  exact laws_FnPageForm.calls k A c l A1 c1 l1 true w hC hc hC1 hc1 h ⟨rfl⟩
end Go.Proofs.Ytcefiblpnegepaa.T
