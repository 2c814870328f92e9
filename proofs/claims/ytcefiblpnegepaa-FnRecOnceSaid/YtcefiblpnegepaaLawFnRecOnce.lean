/- What FnRecOnce tells is true. -/
import Derived.Test.YtcefiblpnegepaaDoP
import Derived.Test.YtcefiblpnegepaaDrawPage
import Derived.Test.YtcefiblpnegepaaPrOnce
namespace Go.Proofs.Ytcefiblpnegepaa.T
open Go.RowKit Go.Proofs.YtcefiblpnegepaaW.PrintWords Go.Proofs.Ytcefiblpnegepaa.Pr
set_option linter.unusedSimpArgs false
set_option linter.unusedVariables false
theorem PureFnRecOnce (l l1 : List Int) (hby : Bytes l) (hby1 : Bytes l1) : ∃ k, laws_FnRecOnce.f k l l1 = some true := by
  refine ⟨22, ?_⟩
  have key : ∀ x : Bool, laws_FnRecOnce.j0 22 l l1 x = some true := by
    intro x
    rw [show (22 : Nat) = 21 + 1 from rfl, laws_FnRecOnce.j0]
    cases x with
    | true => rfl
    | false =>
      simp only [Bool.false_eq_true, if_false]
      obtain ⟨a, b, v, a0, a1, a2, a3, a4, a5, a6, a7, n, e, h3⟩ := DrawRecDo_k l hby 15
      simp only [e, Option.bind_some]
      rw [specDo_k _ _ _ _ _ _ _ _ _ _ _ _ (by omega) _ (by omega), implDo_k _ _ _ _ _ _ _ _ _ _ _ _ (by omega) _ (by omega)]
      have hd := doB_len a b v a0 a1 a2 a3 a4 a5 a6 a7 n
      cases hdid : didB a b v a0 a1 a2 a3 a4 a5 a6 a7 n with
      | false =>
        rw [doB_no hdid]
        simp only [Option.bind_some, bne_self_eq_false, Bool.false_eq_true, if_false]
        rw [ltPage_k _ _ _ _ _ _ (by simp) _ (by simp)]
        simp only [Option.bind_some, and_self, decide_true, if_true, Bool.not_false]
        rw [show (21 : Nat) = 20 + 1 from rfl, laws_FnRecOnce.j1]
        simp only [if_true, beq_self_eq_true]
        rw [ltPage_k _ _ _ _ _ _ (by simp) _ (by simp)]
        simp
      | true =>
        have hn := didB_lsn hdid
        rw [doB_yes hdid] at hd ⊢
        simp only at hd
        simp only [Option.bind_some, bne_self_eq_false, Bool.false_eq_true, if_false]
        rw [ltPage_k _ _ _ _ _ _ (by omega) _ (by omega)]
        simp only [Option.bind_some, and_self, decide_true, if_true, Bool.not_true]
        rw [show (21 : Nat) = 20 + 1 from rfl, laws_FnRecOnce.j1]
        simp only [Bool.false_eq_true, if_false]
        have hr : 0 ≤ ((l1.length : Int) % 3) ∧ ((l1.length : Int) % 3) < 3 := by omega
        rw [T.wrap_small (by omega) (by omega)]
        rw [implDo_k _ _ _ _ _ _ _ _ _ _ _ _ (by omega) _ (by omega), implDo_k _ _ _ _ _ _ _ _ _ _ _ _ (by omega) _ (by omega)]
        rw [doB_no (didB_far (by omega)), doB_no (didB_far (by omega))]
        rfl
  unfold laws_FnRecOnce.f
  split
  · exact key _
  · exact key _
/-- The walk of the law: its printed contract, at the plain law. -/
theorem FnRecOnce_walk (A : Option Addr) (c : Nat) (l : List Int) (A1 : Option Addr) (c1 : Nat) (l1 : List Int) (w : World) (hc : l.length ≤ c) (hC : Kd.C (Kd.int .u8) w A l.length l) (hby : Bytes l) (hc1 : l1.length ≤ c1) (hC1 : Kd.C (Kd.int .u8) w A1 l1.length l1) (hby1 : Bytes l1) :
    Calls Try.prog 11 #[.slice A l.length c, .slice A1 l1.length c1] w fun e w' => e = .returned (.bool true) ∧ Below w.heap.size w w' := by
  obtain ⟨k, h⟩ := PureFnRecOnce l l1 hby hby1
  exact laws_FnRecOnce.calls k A c l A1 c1 l1 true w hC hc hC1 hc1 h
end Go.Proofs.Ytcefiblpnegepaa.T
