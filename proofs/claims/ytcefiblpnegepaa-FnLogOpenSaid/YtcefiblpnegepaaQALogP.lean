import Derived.Test.YtcefiblpnegepaaQAByq
import Derived.Test.YtcefiblpnegepaaQALogOk
import Derived.Test.YtcefiblpnegepaaQAPrLogB
namespace Go.Proofs.Ytcefiblpnegepaa.T
open Go.RowKit Go.PW Go.Proofs.Ytcefiblpnegepaa.Pr
set_option linter.unusedSimpArgs false
set_option linter.unusedVariables false
theorem XaW (l : List S41) (t : Int) (hl : l.length ≤ 9223372036854775807) : ∀ (i k : Nat), i ≤ l.length → i < k → Xn.l0 k l t ((i : Int) - 1) = some (lastB (l.take i) t)
  | 0, k + 1, _, _ => by
    rw [Xn.l0, if_neg (by omega)]
    rfl
  | i + 1, k + 1, hi, hk => by
    have e : ((i + 1 : Nat) : Int) - 1 = (i : Int) := by omega
    rw [e, Xn.l0, if_pos (by omega), if_pos (by omega), if_pos (by omega), XW l i (by omega)]
    by_cases h1 : ((Xa l i).f1) = t
    · rw [if_pos h1, if_pos h1]
      by_cases h4 : ((Xa l i).f0) = 4
      · simp [h4]
      · by_cases h5 : ((Xa l i).f0) = 5
        · simp [h5]
        · rw [if_neg h4, if_neg h5, if_neg (by omega), T.wrap_small (by omega) (by omega)]
    · rw [if_neg h1, if_neg h1, T.wrap_small (by omega) (by omega)]
      exact XaW l t hl i k (by omega) (by omega)
theorem NI (l : List S41) (t : Int) (hl : l.length ≤ 9223372036854775807) (k : Nat) (hk : l.length < k) : Xn.f k l t = some (lastB l t) := by
  unfold Xn.f
  rw [T.wrap_small (by omega) (by omega), XaW l t hl l.length k (Nat.le_refl _) hk, List.take_length]
theorem EU (n i : Nat) (h : i < n) : (List.range n).drop i = i :: (List.range n).drop (i + 1) := by
  rw [List.drop_eq_getElem_cons (by simpa using h)]
  simp
theorem Lv (l : List S41) (hl : l.length ≤ 9223372036854775807) : ∀ (d i k : Nat), i + d = l.length → 2 * d + l.length + 4 < k → Xi.l0 k l i = some (decide (l.length ≤ 150) && ((List.range l.length).drop i).all (ZX l))
  | 0, i, k + 1, hi, _ => by
    rw [Xi.l0, if_neg (by omega), List.drop_of_length_le zb153]
    have : decide ((l.length : Int) ≤ 150) = decide (l.length ≤ 150) := by
      rw [decide_eq_decide]; omega
    simp [this]
  | d + 1, i, k + 2, hi, hk => by
    have hlt : i < l.length := by omega
    rw [EU _ _ hlt, List.all_cons]; have ih := Lv l hl d (i + 1) k (by omega) (by omega)
    have hw : wrap64 ((i : Int) + 1) = ((i + 1 : Nat) : Int) := by rw [T.wrap_small (by omega) (by omega)]; omega
    have hjt : Xi.j1 (k + 1) l i true = some false := by rw [Xi.j1]; rfl
    obtain ⟨k1, rfl⟩ : ∃ j, k = j + 2 := ⟨k - 2, by omega⟩
    rw [Xi.l0, if_pos (by omega), if_pos (by omega), SE _ _ _ _ _ _ _ _ (k1 + 1)]; simp only [Option.bind_some]
    by_cases hok : VQ ((Xa l i).f0) ((Xa l i).f1) ((Xa l i).f2) ((Xa l i).f3) ((Xa l i).f4) ((Xa l i).f5) ((Xa l i).f6) ((Xa l i).f7) = true
    · have hnx := Tf hok
      rw [if_pos hok, if_pos (by omega), NI _ _ zb153 _ zb153]; simp only [Option.bind_some, Int.toNat_natCast]
      by_cases hpv : ((Xa l i).f6) = lastB (l.take i) ((Xa l i).f1)
      · rw [if_pos hpv]
        by_cases hni : ((Xa l i).f7) > (i : Int)
        · have e : ZX l i = false := by unfold ZX; simp; omega
          rw [decide_eq_true hni, hjt, e]
          simp
        · rw [decide_eq_false hni, Xi.j1]
          simp only [Bool.false_eq_true, if_false]; rw [if_pos (by omega), if_pos (by omega)]
          by_cases hn0 : ((Xa l i).f7) > 0
          · rw [if_pos hn0, T.wrap_small (by omega) (by omega), if_pos (by omega), if_pos (by omega)]
            by_cases hsm : (Xa l (((Xa l i).f7) - 1)).f1 = ((Xa l i).f1)
            · have e : ZX l i = true := by unfold ZX; rw [hok]; simp [← hpv, hsm]; omega
              rw [if_pos hsm, hw, ih, e]
              simp
            · have e : ZX l i = false := by unfold ZX; simp [hsm]; omega
              rw [if_neg hsm, e]
              simp
          · have e : ZX l i = true := by unfold ZX; rw [hok]; simp [← hpv]; omega
            rw [if_neg hn0, hw, ih, e]
            simp
      · have e : ZX l i = false := by unfold ZX; simp [hpv]
        rw [if_neg hpv, hjt, e]
        simp
    · have e : ZX l i = false := by unfold ZX; simp [hok]
      rw [if_neg hok, hjt, e]
      simp
theorem VB (l : List S41) (hl : l.length ≤ 9223372036854775807) (k : Nat) (hk : 3 * l.length + 4 < k) : Xi.f k l = some (YW l) := by
  unfold Xi.f YW
  have h := Lv l hl l.length 0 k (by omega) (by omega)
  simpa using h
theorem Lx (l : List S41) (hl : l.length ≤ 9223372036854775807) : ∀ (d i k : Nat), i + d = l.length → 2 * d + l.length + 4 < k → Xq.l0 k l i = some (decide (l.length ≤ 150) && ((List.range l.length).drop i).all (ZX l))
  | 0, i, k + 1, hi, _ => by
    rw [Xq.l0, if_neg (by omega), List.drop_of_length_le zb153]
    have : decide ((l.length : Int) ≤ 150) = decide (l.length ≤ 150) := by
      rw [decide_eq_decide]; omega
    simp [this]
  | d + 1, i, k + 2, hi, hk => by
    have hlt : i < l.length := by omega
    rw [EU _ _ hlt, List.all_cons]; have ih := Lx l hl d (i + 1) k (by omega) (by omega)
    have hw : wrap64 ((i : Int) + 1) = ((i + 1 : Nat) : Int) := by rw [T.wrap_small (by omega) (by omega)]; omega
    have hjt : Xq.j1 (k + 1) l i true = some false := by rw [Xq.j1]; rfl
    obtain ⟨k1, rfl⟩ : ∃ j, k = j + 2 := ⟨k - 2, by omega⟩
    rw [Xq.l0, if_pos (by omega), if_pos (by omega), SE _ _ _ _ _ _ _ _ (k1 + 1)]; simp only [Option.bind_some]
    by_cases hok : VQ ((Xa l i).f0) ((Xa l i).f1) ((Xa l i).f2) ((Xa l i).f3) ((Xa l i).f4) ((Xa l i).f5) ((Xa l i).f6) ((Xa l i).f7) = true
    · have hnx := Tf hok
      rw [if_pos hok, if_pos (by omega), NI _ _ zb153 _ zb153]; simp only [Option.bind_some, Int.toNat_natCast]
      by_cases hpv : ((Xa l i).f6) = lastB (l.take i) ((Xa l i).f1)
      · rw [if_pos hpv]
        by_cases hni : ((Xa l i).f7) > (i : Int)
        · have e : ZX l i = false := by unfold ZX; simp; omega
          rw [decide_eq_true hni, hjt, e]
          simp
        · rw [decide_eq_false hni, Xq.j1]
          simp only [Bool.false_eq_true, if_false]; rw [if_pos (by omega), if_pos (by omega)]
          by_cases hn0 : ((Xa l i).f7) > 0
          · rw [if_pos hn0, T.wrap_small (by omega) (by omega), if_pos (by omega), if_pos (by omega)]
            by_cases hsm : (Xa l (((Xa l i).f7) - 1)).f1 = ((Xa l i).f1)
            · have e : ZX l i = true := by unfold ZX; rw [hok]; simp [← hpv, hsm]; omega
              rw [if_pos hsm, hw, ih, e]
              simp
            · have e : ZX l i = false := by unfold ZX; simp [hsm]; omega
              rw [if_neg hsm, e]
              simp
          · have e : ZX l i = true := by unfold ZX; rw [hok]; simp [← hpv]; omega
            rw [if_neg hn0, hw, ih, e]
            simp
      · have e : ZX l i = false := by unfold ZX; simp [hpv]
        rw [if_neg hpv, hjt, e]
        simp
    · have e : ZX l i = false := by unfold ZX; simp [hok]
      rw [if_neg hok, hjt, e]
      simp
theorem Vb (l : List S41) (hl : l.length ≤ 9223372036854775807) (k : Nat) (hk : 3 * l.length + 4 < k) : Xq.f k l = some (YW l) := by
  unfold Xq.f YW
  have h := Lx l hl l.length 0 k (by omega) (by omega)
  simpa using h
end Go.Proofs.Ytcefiblpnegepaa.T
namespace Go.Proofs.Ytcefiblpnegepaa.Pr
open Go.RowKit Go.PW Go.Proofs.Ytcefiblpnegepaa.T
theorem Xq.calls (k : Nat) (A0 : Option Addr) (c0 : Nat) (l0 : List S41) (r : Bool) (w : World) (hr0 : Kd.C k41 w A0 l0.length l0) (hc0 : l0.length ≤ c0) (h : Xq.f k l0 = some r) :
    Calls Try.prog 34 #[.slice A0 l0.length c0] w fun e w' => e = .returned (.bool r) ∧ Below w.heap.size w w' := by
  obtain rfl : r = YW l0 := XaX (Xq.mono _) h (Vb l0 hr0.2.1 (3 * l0.length + 5) (by omega)); exact RX _ _ _ _ hr0 hc0
end Go.Proofs.Ytcefiblpnegepaa.Pr
