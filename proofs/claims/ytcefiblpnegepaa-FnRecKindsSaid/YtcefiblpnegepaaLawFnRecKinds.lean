/- What FnRecKinds tells is true. -/
import Derived.Test.YtcefiblpnegepaaDoP
import Derived.Test.YtcefiblpnegepaaDrawPage
import Derived.Test.YtcefiblpnegepaaPrKinds
namespace Go.Proofs.Ytcefiblpnegepaa.T
open Go.RowKit Go.Proofs.YtcefiblpnegepaaW.PrintWords Go.Proofs.Ytcefiblpnegepaa.Pr
set_option linter.unusedSimpArgs false
set_option linter.unusedVariables false
theorem kinds_step (x1 : List Int) (a b : Int) (l : List Int) (k tx p s o n pv nx : Int) (hl : l.length ≤ 3) (j : Nat) (i i1 d : Int) (h0 : 0 ≤ i) (h3 : i < 3) (h1 : wrap64 (i + 1) = i1) (hd : rd [3, 4, 5] i = d) (hk : (d == 1 || d == 2 || d == 6) = false) (hj : 12 < j) :
    laws_FnRecKinds.l0 (j + 1) x1 [3, 4, 5] 3 i a b l k tx p s o n pv nx = laws_FnRecKinds.l0 j x1 [3, 4, 5] 3 i1 a b l k tx p s o n pv nx := by
  rw [laws_FnRecKinds.l0, if_pos h3, if_pos h0, if_pos (by simpa using h3), hd, h1, implDo_k _ _ _ _ _ _ _ _ _ _ _ _ (by omega) _ (by omega), doB_no (didB_kind hk)]
  simp only [Option.bind_some, Bool.false_eq_true, if_false]
theorem kinds_end (x1 : List Int) (a b : Int) (l : List Int) (k tx p s o n pv nx : Int) (hl : l.length ≤ 3) (j : Nat) (hj : 12 < j) :
    laws_FnRecKinds.l0 (j + 1) x1 [3, 4, 5] 3 3 a b l k tx p s o n pv nx = some true := by
  rw [laws_FnRecKinds.l0, if_neg (by omega), implDo_k _ _ _ _ _ _ _ _ _ _ _ _ (by omega) _ (by omega), doB_no (didB_far (.inr (by omega)))]
  simp only [Option.bind_some, Bool.not_false]
theorem kinds_l (x1 : List Int) (a b : Int) (l : List Int) (k tx p s o n pv nx : Int) (hl : l.length ≤ 3) : laws_FnRecKinds.l0 20 x1 [3, 4, 5] 3 0 a b l k tx p s o n pv nx = some true := by
  have e0 := kinds_step x1 a b l k tx p s o n pv nx hl 19 0 1 3 (by omega) (by omega) (T.wrap_small (by omega) (by omega)) (by simp [rd]) (by simp) (by omega)
  have e1 := kinds_step x1 a b l k tx p s o n pv nx hl 18 1 2 4 (by omega) (by omega) (T.wrap_small (by omega) (by omega)) (by simp [rd]) (by simp) (by omega)
  have e2 := kinds_step x1 a b l k tx p s o n pv nx hl 17 2 3 5 (by omega) (by omega) (T.wrap_small (by omega) (by omega)) (by simp [rd]) (by simp) (by omega)
  have e3 := kinds_end x1 a b l k tx p s o n pv nx hl 16 (by omega)
  exact e0.trans (e1.trans (e2.trans e3))
theorem PureFnRecKinds (l l1 : List Int) (hby : Bytes l) (hby1 : Bytes l1) : ∃ k, laws_FnRecKinds.f k l l1 = some true := by
  refine ⟨22, ?_⟩
  have key : ∀ x : Bool, laws_FnRecKinds.j0 22 l l1 x = some true := by
    intro x
    rw [show (22 : Nat) = 21 + 1 from rfl, laws_FnRecKinds.j0]
    cases x with
    | true => rfl
    | false =>
      simp only [Bool.false_eq_true, if_false]
      obtain ⟨a, b, v, a0, a1, a2, a3, a4, a5, a6, a7, n, e, h3⟩ := DrawRecDo_k l hby 15
      simp only [e, Option.bind_some]
      rw [specDo_k _ _ _ _ _ _ _ _ _ _ _ _ (by omega) _ (by omega), implDo_k _ _ _ _ _ _ _ _ _ _ _ _ (by omega) _ (by omega)]
      have hd := doB_len a b v a0 a1 a2 a3 a4 a5 a6 a7 n
      generalize doB a b v a0 a1 a2 a3 a4 a5 a6 a7 n = q at hd ⊢
      obtain ⟨q0, q1, q2, q3⟩ := q
      simp only at hd
      simp only [Option.bind_some, bne_self_eq_false, Bool.false_eq_true, if_false]
      rw [ltPage_k _ _ _ _ _ _ (by omega) _ (by omega)]
      simp only [Option.bind_some, and_self, decide_true, if_true]
      rw [spec_PageOk_k _ _ _ (by omega) _ (by omega)]
      simp only [Option.bind_some]
      rw [show (21 : Nat) = 20 + 1 from rfl, laws_FnRecKinds.j1]
      cases pageOkB a b v with
      | false =>
        simp only [Bool.not_false, if_true, beq_self_eq_true]
        rw [ltPage_k _ _ _ _ _ _ (by omega) _ (by omega)]
        simp
      | true =>
        simp only [Bool.not_true, Bool.false_eq_true, if_false, Option.bind_some, List.length_cons, List.length_nil]
        exact kinds_l l1 a b v a0 a1 a2 a3 a4 a5 a6 a7 h3
  unfold laws_FnRecKinds.f
  split
  · exact key _
  · exact key _
/-- The walk of the law: its printed contract, at the plain law. -/
theorem FnRecKinds_walk (A : Option Addr) (c : Nat) (l : List Int) (A1 : Option Addr) (c1 : Nat) (l1 : List Int) (w : World) (hc : l.length ≤ c) (hC : Kd.C (Kd.int .u8) w A l.length l) (hby : Bytes l) (hc1 : l1.length ≤ c1) (hC1 : Kd.C (Kd.int .u8) w A1 l1.length l1) (hby1 : Bytes l1) :
    Calls Try.prog 10 #[.slice A l.length c, .slice A1 l1.length c1] w fun e w' => e = .returned (.bool true) ∧ Below w.heap.size w w' := by
  obtain ⟨k, h⟩ := PureFnRecKinds l l1 hby hby1
  exact laws_FnRecKinds.calls k A c l A1 c1 l1 true w hC hc hC1 hc1 h
end Go.Proofs.Ytcefiblpnegepaa.T
