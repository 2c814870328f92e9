import Derived.Test.YtcefiblpnegepaaQByq
import Derived.Test.YtcefiblpnegepaaQLogOk
import Derived.Test.YtcefiblpnegepaaQPrLogB
namespace Go.Proofs.Ytcefiblpnegepaa.T
open Go.RowKit Go.Proofs.YtcefiblpnegepaaW.PrintWords Go.Proofs.Ytcefiblpnegepaa.Pr
set_option linter.unusedSimpArgs false
set_option linter.unusedVariables false
theorem l3Last_l (l : List S41) (t : Int) (hl : l.length ≤ 9223372036854775807) : ∀ (i k : Nat), i ≤ l.length → i < k → spec_l3Last.l0 k l t ((i : Int) - 1) = some (lastB (l.take i) t)
  | 0, k + 1, _, _ => by
    rw [spec_l3Last.l0, if_neg (by omega)]
    rfl
  | i + 1, k + 1, hi, hk => by
    have e : ((i + 1 : Nat) : Int) - 1 = (i : Int) := by omega
    rw [e, spec_l3Last.l0, if_pos (by omega), if_pos (by omega), if_pos (by omega), lastB_take l i (by omega)]
    by_cases h1 : ((rd_T41 l i).f1) = t
    · rw [if_pos h1, if_pos h1]
      by_cases h4 : ((rd_T41 l i).f0) = 4
      · simp [h4]
      · by_cases h5 : ((rd_T41 l i).f0) = 5
        · simp [h5]
        · rw [if_neg h4, if_neg h5, if_neg (by omega), T.wrap_small (by omega) (by omega)]
    · rw [if_neg h1, if_neg h1, T.wrap_small (by omega) (by omega)]
      exact l3Last_l l t hl i k (by omega) (by omega)
theorem l3Last_k (l : List S41) (t : Int) (hl : l.length ≤ 9223372036854775807) (k : Nat) (hk : l.length < k) : spec_l3Last.f k l t = some (lastB l t) := by
  unfold spec_l3Last.f
  rw [T.wrap_small (by omega) (by omega), l3Last_l l t hl l.length k (Nat.le_refl _) hk, List.take_length]
theorem range_drop (n i : Nat) (h : i < n) : (List.range n).drop i = i :: (List.range n).drop (i + 1) := by
  rw [List.drop_eq_getElem_cons (by simpa using h)]
  simp
theorem spec_LogOk_l (l : List S41) (hl : l.length ≤ 9223372036854775807) : ∀ (d i k : Nat), i + d = l.length → 2 * d + l.length + 4 < k → spec_LogOk.l0 k l i = some (decide (l.length ≤ 150) && ((List.range l.length).drop i).all (okAt l))
  | 0, i, k + 1, hi, _ => by
    rw [spec_LogOk.l0, if_neg (by omega), List.drop_of_length_le zb112]
    have : decide ((l.length : Int) ≤ 150) = decide (l.length ≤ 150) := by
      rw [decide_eq_decide]; omega
    simp [this]
  | d + 1, i, k + 2, hi, hk => by
    have hlt : i < l.length := by omega
    rw [range_drop _ _ hlt, List.all_cons]; have ih := spec_LogOk_l l hl d (i + 1) k (by omega) (by omega)
    have hw : wrap64 ((i : Int) + 1) = ((i + 1 : Nat) : Int) := by rw [T.wrap_small (by omega) (by omega)]; omega
    have hjt : spec_LogOk.j1 (k + 1) l i true = some false := by rw [spec_LogOk.j1]; rfl
    obtain ⟨k1, rfl⟩ : ∃ j, k = j + 2 := ⟨k - 2, by omega⟩
    rw [spec_LogOk.l0, if_pos (by omega), if_pos (by omega), spec_RecOk_k _ _ _ _ _ _ _ _ (k1 + 1)]; simp only [Option.bind_some]
    by_cases hok : recOkB ((rd_T41 l i).f0) ((rd_T41 l i).f1) ((rd_T41 l i).f2) ((rd_T41 l i).f3) ((rd_T41 l i).f4) ((rd_T41 l i).f5) ((rd_T41 l i).f6) ((rd_T41 l i).f7) = true
    · have hnx := recOkB_nx hok
      rw [if_pos hok, if_pos (by omega), l3Last_k _ _ zb112 _ zb112]; simp only [Option.bind_some, Int.toNat_natCast]
      by_cases hpv : ((rd_T41 l i).f6) = lastB (l.take i) ((rd_T41 l i).f1)
      · rw [if_pos hpv]
        by_cases hni : ((rd_T41 l i).f7) > (i : Int)
        · have e : okAt l i = false := by unfold okAt; simp; omega
          rw [decide_eq_true hni, hjt, e]
          simp
        · rw [decide_eq_false hni, spec_LogOk.j1]
          simp only [Bool.false_eq_true, if_false]; rw [if_pos (by omega), if_pos (by omega)]
          by_cases hn0 : ((rd_T41 l i).f7) > 0
          · rw [if_pos hn0, T.wrap_small (by omega) (by omega), if_pos (by omega), if_pos (by omega)]
            by_cases hsm : (rd_T41 l (((rd_T41 l i).f7) - 1)).f1 = ((rd_T41 l i).f1)
            · have e : okAt l i = true := by unfold okAt; rw [hok]; simp [← hpv, hsm]; omega
              rw [if_pos hsm, hw, ih, e]
              simp
            · have e : okAt l i = false := by unfold okAt; simp [hsm]; omega
              rw [if_neg hsm, e]
              simp
          · have e : okAt l i = true := by unfold okAt; rw [hok]; simp [← hpv]; omega
            rw [if_neg hn0, hw, ih, e]
            simp
      · have e : okAt l i = false := by unfold okAt; simp [hpv]
        rw [if_neg hpv, hjt, e]
        simp
    · have e : okAt l i = false := by unfold okAt; simp [hok]
      rw [if_neg hok, hjt, e]
      simp
theorem spec_LogOk_k (l : List S41) (hl : l.length ≤ 9223372036854775807) (k : Nat) (hk : 3 * l.length + 4 < k) : spec_LogOk.f k l = some (logOkB l) := by
  unfold spec_LogOk.f logOkB
  have h := spec_LogOk_l l hl l.length 0 k (by omega) (by omega)
  simpa using h
theorem impl_LogOk_l (l : List S41) (hl : l.length ≤ 9223372036854775807) : ∀ (d i k : Nat), i + d = l.length → 2 * d + l.length + 4 < k → impl_LogOk.l0 k l i = some (decide (l.length ≤ 150) && ((List.range l.length).drop i).all (okAt l))
  | 0, i, k + 1, hi, _ => by
    rw [impl_LogOk.l0, if_neg (by omega), List.drop_of_length_le zb112]
    have : decide ((l.length : Int) ≤ 150) = decide (l.length ≤ 150) := by
      rw [decide_eq_decide]; omega
    simp [this]
  | d + 1, i, k + 2, hi, hk => by
    have hlt : i < l.length := by omega
    rw [range_drop _ _ hlt, List.all_cons]; have ih := impl_LogOk_l l hl d (i + 1) k (by omega) (by omega)
    have hw : wrap64 ((i : Int) + 1) = ((i + 1 : Nat) : Int) := by rw [T.wrap_small (by omega) (by omega)]; omega
    have hjt : impl_LogOk.j1 (k + 1) l i true = some false := by rw [impl_LogOk.j1]; rfl
    obtain ⟨k1, rfl⟩ : ∃ j, k = j + 2 := ⟨k - 2, by omega⟩
    rw [impl_LogOk.l0, if_pos (by omega), if_pos (by omega), spec_RecOk_k _ _ _ _ _ _ _ _ (k1 + 1)]; simp only [Option.bind_some]
    by_cases hok : recOkB ((rd_T41 l i).f0) ((rd_T41 l i).f1) ((rd_T41 l i).f2) ((rd_T41 l i).f3) ((rd_T41 l i).f4) ((rd_T41 l i).f5) ((rd_T41 l i).f6) ((rd_T41 l i).f7) = true
    · have hnx := recOkB_nx hok
      rw [if_pos hok, if_pos (by omega), l3Last_k _ _ zb112 _ zb112]; simp only [Option.bind_some, Int.toNat_natCast]
      by_cases hpv : ((rd_T41 l i).f6) = lastB (l.take i) ((rd_T41 l i).f1)
      · rw [if_pos hpv]
        by_cases hni : ((rd_T41 l i).f7) > (i : Int)
        · have e : okAt l i = false := by unfold okAt; simp; omega
          rw [decide_eq_true hni, hjt, e]
          simp
        · rw [decide_eq_false hni, impl_LogOk.j1]
          simp only [Bool.false_eq_true, if_false]; rw [if_pos (by omega), if_pos (by omega)]
          by_cases hn0 : ((rd_T41 l i).f7) > 0
          · rw [if_pos hn0, T.wrap_small (by omega) (by omega), if_pos (by omega), if_pos (by omega)]
            by_cases hsm : (rd_T41 l (((rd_T41 l i).f7) - 1)).f1 = ((rd_T41 l i).f1)
            · have e : okAt l i = true := by unfold okAt; rw [hok]; simp [← hpv, hsm]; omega
              rw [if_pos hsm, hw, ih, e]
              simp
            · have e : okAt l i = false := by unfold okAt; simp [hsm]; omega
              rw [if_neg hsm, e]
              simp
          · have e : okAt l i = true := by unfold okAt; rw [hok]; simp [← hpv]; omega
            rw [if_neg hn0, hw, ih, e]
            simp
      · have e : okAt l i = false := by unfold okAt; simp [hpv]
        rw [if_neg hpv, hjt, e]
        simp
    · have e : okAt l i = false := by unfold okAt; simp [hok]
      rw [if_neg hok, hjt, e]
      simp
theorem impl_LogOk_k (l : List S41) (hl : l.length ≤ 9223372036854775807) (k : Nat) (hk : 3 * l.length + 4 < k) : impl_LogOk.f k l = some (logOkB l) := by
  unfold impl_LogOk.f logOkB
  have h := impl_LogOk_l l hl l.length 0 k (by omega) (by omega)
  simpa using h
end Go.Proofs.Ytcefiblpnegepaa.T
namespace Go.Proofs.Ytcefiblpnegepaa.Pr
open Go.RowKit Go.Proofs.YtcefiblpnegepaaW.PrintWords Go.Proofs.Ytcefiblpnegepaa.T
theorem impl_LogOk.calls (k : Nat) (A0 : Option Addr) (c0 : Nat) (l0 : List S41) (r : Bool) (w : World) (hr0 : Kd.C k41 w A0 l0.length l0) (hc0 : l0.length ≤ c0) (h : impl_LogOk.f k l0 = some r) :
    Calls Try.prog 34 #[.slice A0 l0.length c0] w fun e w' => e = .returned (.bool r) ∧ Below w.heap.size w w' := by
  obtain rfl : r = logOkB l0 := leo_uniq (impl_LogOk.mono _) h (impl_LogOk_k l0 hr0.2.1 (3 * l0.length + 5) (by omega)); exact implLogOk_calls _ _ _ _ hr0 hc0
end Go.Proofs.Ytcefiblpnegepaa.Pr
