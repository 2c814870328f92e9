import Derived.Test.YtcefiblpnegepaaQByq
import Derived.Test.YtcefiblpnegepaaQPrK
import Derived.Test.YtcefiblpnegepaaQPrM
import Derived.Test.YtcefiblpnegepaaQWEngA
import Derived.Test.YtcefiblpnegepaaQPrLogA
import Derived.Test.YtcefiblpnegepaaQSq
import Derived.Test.YtcefiblpnegepaaQEngT4
import Derived.Test.YtcefiblpnegepaaQPrLawDC
namespace Go.Proofs.Ytcefiblpnegepaa.T
open Go.RowKit Go.Proofs.YtcefiblpnegepaaW.PrintWords Go.Proofs.Ytcefiblpnegepaa.Pr
set_option linter.unusedSimpArgs false
set_option linter.unusedVariables false
theorem lastR_one (t : Int) (x : Rc) : ∀ a : List Rc, lastR t (a ++ [x]) = 1 → lastR t a = 0
  | [], _ => rfl
  | y :: a, h => by
    rw [List.cons_append, lastR] at h; rw [lastR]
    by_cases h1 : y.f1 = t
    · rw [if_pos h1] at h
      split at h
      · omega
      · simp at h
        omega
    · rw [if_neg h1] at h
      rw [if_neg h1]; exact lastR_one t x a h
theorem lastB_one (t : Int) (x : Rc) (s : List Rc) (h : lastB (x :: s) t = 1) : lastB s t = 0 := by
  unfold lastB at h ⊢
  rw [List.reverse_cons] at h; exact lastR_one t x _ h
theorem okAt_prev {l : List Rc} {i : Nat} (h : okAt l i = true) : (rd_T41 l (i : Int)).f6 = lastB (l.take i) (rd_T41 l (i : Int)).f1 := by
  unfold okAt at h
  simp only [Bool.and_eq_true, beq_iff_eq] at h; exact h.1.1.2
theorem logOk_at {l : List Rc} (h : logOkB l = true) (i : Nat) (hi : i < l.length) : okAt l i = true := by
  unfold logOkB at h
  simp only [Bool.and_eq_true, List.all_eq_true] at h; exact h.2 i (by simpa using hi)
theorem okAt_take {l : List Rc} {i n : Nat} (hi : i < n) : okAt (l.take n) i = okAt l i := by
  have e : ∀ j : Int, 0 ≤ j → j < (n : Int) → rd_T41 (l.take n) j = rd_T41 l j := fun j h0 h1 => rc_take l n j h0 h1
  unfold okAt
  rw [e (i : Int) (by omega) (by omega), List.take_take, Nat.min_eq_left (by omega)]
  by_cases h7 : (rd_T41 l (i : Int)).f7 ≤ (i : Int)
  · by_cases h0 : (rd_T41 l (i : Int)).f7 ≤ 0
    · rw [decide_eq_true h0, Bool.true_or, Bool.true_or]
    · rw [e _ (by omega) (by omega)]
  · rw [decide_eq_false h7, Bool.and_false, Bool.false_and, Bool.false_and]
theorem logOk_take {l : List Rc} (h : logOkB l = true) (n : Nat) : logOkB (l.take n) = true := by
  have hl := logOk_len h
  unfold logOkB
  rw [Bool.and_eq_true, decide_eq_true_eq, List.all_eq_true]; refine ⟨by rw [List.length_take]; omega, fun i hi => ?_⟩; rw [List.mem_range, List.length_take] at hi; rw [okAt_take (by omega)]; exact logOk_at h i (by omega)
theorem rd41_drop (l : List Rc) (i : Nat) : rd_T41 (l.drop 1) (i : Int) = rd_T41 l ((i + 1 : Nat) : Int) := by
  unfold rd_T41
  rw [List.getD_eq_getElem?_getD, List.getD_eq_getElem?_getD, List.getElem?_drop, Int.toNat_natCast, Int.toNat_natCast, Nat.add_comm 1 i]
theorem cut_bad {l : List Rc} (h : logOkB l = true) (i : Nat) (h1 : 1 ≤ i) (hi : i < l.length) (h6 : (rd_T41 l (i : Int)).f6 = 1) : logOkB (l.drop 1) = false := by
  cases l with
  | nil => simp at hi
  | cons x r =>
    obtain ⟨j, rfl⟩ : ∃ j, i = j + 1 := ⟨i - 1, by omega⟩
    have hp := okAt_prev (logOk_at h (j + 1) hi); rw [h6, List.take_succ_cons] at hp; have h0 := lastB_one _ _ _ hp.symm; refine logOkB_no (i := j) (by simpa using hi) ?_
    cases hk : okAt ((x :: r).drop 1) j with
    | false => rfl
    | true =>
      have hq := okAt_prev hk; rw [rd41_drop, h6] at hq; simp only [List.drop_succ_cons, List.drop_zero] at hq; omega
end Go.Proofs.Ytcefiblpnegepaa.T
namespace Go.Proofs.Ytcefiblpnegepaa.T
open Go.RowKit Go.Proofs.YtcefiblpnegepaaW.PrintWords Go.Proofs.Ytcefiblpnegepaa.Pr
set_option linter.unusedSimpArgs false
set_option linter.unusedVariables false
theorem cut_l {l : List Rc} (h : logOkB l = true) (hl : l.length ≤ 152) : ∀ (d k i : Nat), i + d = l.length → 1 ≤ i → 500 + d < k → laws_FnLogCut.l0 k l (i : Int) = some true
  | 0, k + 1, i, hi, h1, hk => by rw [laws_FnLogCut.l0, if_neg (by omega)]
  | d + 1, k + 1, i, hi, h1, hk => by
    rw [laws_FnLogCut.l0, if_pos (by omega), if_pos (by omega)]
    by_cases h6 : (rd_T41 l (i : Int)).f6 = 1
    · rw [if_pos h6, if_pos (by omega), impl_LogOk_k _ zb97 k zb97, cut_bad h i h1 (by omega) h6]
      rfl
    · rw [if_neg h6, wadd (by omega) (by omega)]
      exact cut_l h hl d k (i + 1) (by omega) (by omega) (by omega)
theorem PureFnLogCut (l l1 : List Int) (hby : Bytes l) (hby1 : Bytes l1) : ∃ k, laws_FnLogCut.f k l l1 = some true := by
  refine ⟨6000, ?_⟩
  have key : ∀ b, laws_FnLogCut.j0 6000 l l1 b = some true := by
    intro b; rw [show (6000 : Nat) = 5999 + 1 from rfl, laws_FnLogCut.j0]
    cases b
    · rw [if_neg (by simp)]
      obtain ⟨x, e, hx⟩ := drawLogOk_k l hby 5999 (by omega); have hok := impl_LogOk_k x (by omega) 5999 (by omega); have hok2 := spec_LogOk_k x (by omega) 5999 (by omega); rw [e, Option.bind_some, hok, Option.bind_some, hok2, Option.bind_some, if_neg (by simp)]; rw [show (5999 : Nat) = 5998 + 1 from rfl, laws_FnLogCut.j1]
      cases ok : logOkB x with
      | false =>
        rw [if_pos (by simp), spec_LogOk_k x (by omega) 5998 (by omega), Option.bind_some, ok]
        rfl
      | true =>
        obtain ⟨n, hn⟩ : ∃ n : Nat, (l1.length : Int) % ((x.length : Int) + 1) = (n : Int) := ⟨((l1.length : Int) % ((x.length : Int) + 1)).toNat, by have := Int.emod_nonneg (l1.length : Int) (show (x.length : Int) + 1 ≠ 0 by omega); omega⟩
        have hlt : (n : Int) < (x.length : Int) + 1 := by rw [← hn]; exact Int.emod_lt_of_pos _ (by omega)
        rw [if_neg (by simp), wadd (by omega) (by omega), if_neg (by omega), hn, if_pos (by omega), if_pos (by omega), Int.toNat_natCast, impl_LogOk_k _ (by rw [List.length_take]; omega) 5998 (by rw [List.length_take]; omega), Option.bind_some, logOk_take ok n, if_pos rfl, impl_LogOk_k [] (by simp) 5998 (by simp), Option.bind_some]; rw [show logOkB [] = true from rfl, show (5998 : Nat) = 5997 + 1 from rfl, laws_FnLogCut.j2, if_neg (by simp)]
        by_cases h0 : x.length = 0
        · rw [show (5997 : Nat) = 5996 + 1 from rfl, laws_FnLogCut.l0, if_neg (by omega)]
        · exact cut_l ok hx (x.length - 1) 5997 1 (by omega) (by omega) (by omega)
    · rw [if_pos rfl]
  unfold laws_FnLogCut.f
  split
  · exact key _
  · exact key _
end Go.Proofs.Ytcefiblpnegepaa.T
namespace Go.Proofs.Ytcefiblpnegepaa.T
open Go.RowKit Go.Proofs.YtcefiblpnegepaaW.PrintWords Go.Proofs.Ytcefiblpnegepaa.Pr
set_option linter.unusedVariables false
theorem FnLogCut_walk (A : Option Addr) (c : Nat) (l : List Int) (A1 : Option Addr) (c1 : Nat) (l1 : List Int) (w : World) (hc : l.length ≤ c) (hC : Kd.C (Kd.int .u8) w A l.length l) (hby : Bytes l) (hc1 : l1.length ≤ c1) (hC1 : Kd.C (Kd.int .u8) w A1 l1.length l1) (hby1 : Bytes l1) :
    Calls Try.prog 16 #[.slice A l.length c, .slice A1 l1.length c1] w fun e w' => e = .returned (.bool true) ∧ Below w.heap.size w w' := by
  obtain ⟨k, h⟩ := PureFnLogCut l l1 hby hby1; exact laws_FnLogCut.calls k A c l A1 c1 l1 true w hC hc hC1 hc1 h
end Go.Proofs.Ytcefiblpnegepaa.T
