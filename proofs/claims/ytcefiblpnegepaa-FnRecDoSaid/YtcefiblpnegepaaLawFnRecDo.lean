/- What FnRecDo tells is true. -/
import Derived.Test.YtcefiblpnegepaaDoP
import Derived.Test.YtcefiblpnegepaaDrawPage
import Derived.Test.YtcefiblpnegepaaPrLawDo
namespace Go.Proofs.Ytcefiblpnegepaa.T
open Go.RowKit Go.Proofs.YtcefiblpnegepaaW.PrintWords Go.Proofs.Ytcefiblpnegepaa.Pr
set_option linter.unusedSimpArgs false
set_option linter.unusedVariables false
theorem rd_nat {l : List Int} {i : Nat} (h : i < l.length) : rd l i = l[i] := by simp [rd, List.getD_eq_getElem?_getD, List.getElem?_eq_getElem h]
theorem PureFnRecDo (l : List Int) (hby : Bytes l) : ∃ k, laws_FnRecDo.f k l = some true := by
  refine ⟨22, ?_⟩
  unfold laws_FnRecDo.f
  by_cases hlen : (l.length : Int) > 1048576
  · rw [if_pos hlen]
  · rw [if_neg hlen]
    obtain ⟨a, b, v, a0, a1, a2, a3, a4, a5, a6, a7, n, e, h3⟩ := DrawRecDo_k l hby 16
    simp only [e, Option.bind_some]
    rw [specDo_k _ _ _ _ _ _ _ _ _ _ _ _ (by omega) _ (by omega), implDo_k _ _ _ _ _ _ _ _ _ _ _ _ (by omega) _ (by omega)]
    have hd := doB_len a b v a0 a1 a2 a3 a4 a5 a6 a7 n
    cases hdid : didB a b v a0 a1 a2 a3 a4 a5 a6 a7 n with
    | false =>
      rw [doB_no hdid]
      simp only [Option.bind_some, bne_self_eq_false, Bool.false_eq_true, if_false]
      rw [ltPage_k _ _ _ _ _ _ (by simp) _ (by simp)]
      simp only [Option.bind_some, and_self, decide_true, if_true, Bool.not_false]
      rw [show (22 : Nat) = 21 + 1 from rfl, laws_FnRecDo.j0]
      simp only [if_true, beq_self_eq_true]
      rw [ltPage_k _ _ _ _ _ _ (by simp) _ (by simp)]
      simp
    | true =>
      have hn := didB_lsn hdid
      have hok : pageOkB n (ownOf b a3 a5) (valsOf v a3 a5) = true := by
        unfold didB at hdid
        simp only [Bool.and_eq_true] at hdid
        exact hdid.2
      have hrec : recOkB a0 a1 a2 a3 a4 a5 a6 a7 = true := by
        unfold didB mayB at hdid
        simp only [Bool.and_eq_true] at hdid
        exact hdid.1.1.1.2
      have hv3 : v.length = 3 := by
        unfold didB mayB at hdid
        simp only [Bool.and_eq_true] at hdid
        exact pageOkB_len hdid.1.1.1.1
      have hs := recOkB_slot hrec
      rw [doB_yes hdid] at hd ⊢
      simp only at hd
      simp only [Option.bind_some, bne_self_eq_false, Bool.false_eq_true, if_false]
      rw [ltPage_k _ _ _ _ _ _ (by omega) _ (by omega)]
      simp only [Option.bind_some, and_self, decide_true, if_true, Bool.not_true]
      rw [show (22 : Nat) = 21 + 1 from rfl, laws_FnRecDo.j0]
      simp only [Bool.false_eq_true, if_false, if_true]
      rw [if_neg (by omega), impl_PageOk_k _ _ _ (by omega) _ (by omega)]
      simp only [hok, Option.bind_some, Bool.not_true]
      rw [show (21 : Nat) = 20 + 1 from rfl, laws_FnRecDo.j1]
      simp only [Bool.false_eq_true, if_false]
      by_cases hs0 : a3 < 0
      · rw [if_pos hs0]
        have ho : ownOf b a3 a5 = a5 := by unfold ownOf; rw [if_neg (by omega)]
        rw [if_pos ho]
        by_cases h5 : a5 = 0
        · have hv : valsOf v a3 a5 = List.replicate 3 0 := by unfold valsOf; rw [if_neg (by omega), if_pos h5]
          have he : pageEmptyB n (ownOf b a3 a5) (valsOf v a3 a5) = true := by
            unfold pageEmptyB
            rw [hok, hv]
            rfl
          rw [if_pos h5, impl_PageEmpty_k _ _ _ (by omega) _ (by omega), he]
          rfl
        · have hv : valsOf v a3 a5 = v := by unfold valsOf; rw [if_neg (by omega), if_neg h5]
          have h50 : 0 < a5 := by
            rw [pageOkB_at, ho] at hok
            simp only [Bool.and_eq_true] at hok
            have := hok.1.1.2
            simp [inB] at this
            omega
          rw [if_neg h5, if_pos h50, hv, ltInts_k _ _ (by omega) _ (by omega)]
          simp
      · rw [if_neg hs0]
        have ho : ownOf b a3 a5 = b := by unfold ownOf; rw [if_pos (by omega)]
        have hv : valsOf v a3 a5 = v.set a3.toNat a5 := by unfold valsOf; rw [if_pos (by omega)]
        obtain ⟨i, rfl⟩ : ∃ i : Nat, a3 = i := ⟨a3.toNat, by omega⟩
        rw [hv, ho]
        simp only [Int.toNat_natCast, Option.bind_some, List.nil_append, List.length_nil, List.length_set, hv3]
        rw [if_pos (by omega), if_pos (by omega), if_pos (by omega), if_pos (by omega), if_pos (by omega)]
        have e1 : rd (v.set i a5) i = a5 := by rw [rd_nat (by simp; omega)]; simp
        have e2 : (v.set i a5).set i (rd v i) = v := by
          rw [List.set_set, rd_nat (by omega), List.set_getElem_self]
        rw [if_pos e1, e2, ltHas_k _ _ _ _ _ _ (by omega) _ (by omega)]
        simp
/-- The walk of the law: its printed contract, at the plain law. -/
theorem FnRecDo_walk (A : Option Addr) (c : Nat) (l : List Int) (w : World) (hc : l.length ≤ c) (hC : Kd.C (Kd.int .u8) w A l.length l) (hby : Bytes l) :
    Calls Try.prog 14 #[.slice A l.length c] w fun e w' => e = .returned (.bool true) ∧ Below w.heap.size w w' := by
  obtain ⟨k, h⟩ := PureFnRecDo l hby
  exact laws_FnRecDo.calls k A c l true w hC hc h ⟨rfl⟩
end Go.Proofs.Ytcefiblpnegepaa.T
