/- What FnExactLogOpen tells is true. -/
import Derived.Test.YtcefiblpnegepaaMarkP
import Derived.Test.YtcefiblpnegepaaPrLawXN
namespace Go.Proofs.Ytcefiblpnegepaa.T
open Go.RowKit Go.Proofs.YtcefiblpnegepaaW.PrintWords Go.Proofs.Ytcefiblpnegepaa.Pr
set_option linter.unusedSimpArgs false
set_option linter.unusedVariables false
/-- Those that are open, from t on, d of them. -/
def openB (l : List S41) : Nat → Int → List Int
  | 0, _ => []
  | d + 1, t => if 0 < lastB l t then t :: openB l d (t + 1) else openB l d (t + 1)
theorem openB_len (l : List S41) : ∀ d t, (openB l d t).length ≤ d
  | 0, _ => by simp [openB]
  | d + 1, t => by
    have := openB_len l d (t + 1)
    unfold openB
    split <;> simp <;> omega
theorem spec_open_l (l : List S41) (hl : l.length ≤ 9223372036854775807) : ∀ (d k : Nat) (t : Int) (acc : List Int), t + (d : Int) = 4 → l.length + d < k → acc.length + d ≤ 10 → d ≤ 3 → spec_LogOpen.l0 k l acc t = some (acc ++ openB l d t)
  | 0, k + 1, t, acc, h0, _, _, _ => by
    rw [spec_LogOpen.l0, if_neg (by omega)]
    simp [openB]
  | d + 1, k + 1, t, acc, h0, hk, ha, hd => by
    rw [spec_LogOpen.l0, openB, if_pos (by omega), l3Last_k l t hl k (by omega), T.wrap_small (by omega) (by omega)]
    simp only [Option.bind_some]
    by_cases hx : 0 < lastB l t
    · rw [if_pos hx, if_pos hx, if_pos (by omega), spec_open_l l hl d k _ _ (by omega) (by omega) (by simp; omega) (by omega)]
      simp
    · rw [if_neg hx, if_neg hx, spec_open_l l hl d k _ _ (by omega) (by omega) (by omega) (by omega)]
theorem impl_open_l (l : List S41) (hl : l.length ≤ 9223372036854775807) : ∀ (d k : Nat) (t : Int) (acc : List Int), t + (d : Int) = 4 → l.length + d < k → acc.length + d ≤ 10 → d ≤ 3 → impl_open.l0 k l acc t = some (acc ++ openB l d t)
  | 0, k + 1, t, acc, h0, _, _, _ => by
    rw [impl_open.l0, if_neg (by omega)]
    simp [openB]
  | d + 1, k + 1, t, acc, h0, hk, ha, hd => by
    have hb := lastB_0 l t
    rw [impl_open.l0, openB, if_pos (by omega), T.wrap_small (by omega) (by omega)]
    unfold impl_last.f
    simp only [Option.bind_some]
    by_cases hx : 0 < lastB l t
    · rw [if_neg (by omega), if_pos hx, if_pos (by omega), impl_open_l l hl d k _ _ (by omega) (by omega) (by simp; omega) (by omega)]
      simp
    · rw [if_pos (by omega), if_neg hx, impl_open_l l hl d k _ _ (by omega) (by omega) (by omega) (by omega)]
/-- Those that are open. -/
def openL (l : List S41) : List Int := if logOkB l = true then openB l 3 1 else []
theorem openL_len (l : List S41) : (openL l).length ≤ 3 := by
  unfold openL
  split
  · exact openB_len _ _ _
  · simp
theorem specLogOpen_k (l : List S41) (hl : l.length ≤ 9223372036854775807) (k : Nat) (hk : 3 * l.length + 4 < k) : spec_LogOpen.f k l = some (openL l) := by
  unfold spec_LogOpen.f openL
  rw [spec_LogOk_k l hl k hk]
  simp only [Option.bind_some]
  by_cases ok : logOkB l = true
  · rw [if_pos ok, if_pos ok, spec_open_l l hl 3 k 1 _ (by omega) (by omega) (by simp) (by omega)]
    simp
  · rw [if_neg ok, if_neg ok]
theorem implLogOpen_k (l : List S41) (hl : l.length ≤ 9223372036854775807) (k : Nat) (hk : 3 * l.length + 4 < k) : impl_LogOpen.f k l = some (openL l) := by
  unfold impl_LogOpen.f openL
  rw [impl_LogOk_k l hl k hk]
  simp only [Option.bind_some]
  by_cases ok : logOkB l = true
  · rw [if_pos ok, if_pos ok]
    unfold impl_open.f
    rw [impl_open_l l hl 3 k 1 _ (by omega) (by omega) (by simp) (by omega)]
    simp
  · rw [if_neg ok, if_neg ok]
theorem PureFnExactLogOpen (l : List S58) (hl : l.length ≤ 9223372036854775807) (hg : ∀ x ∈ l, Rec64 x) : ∃ k, laws_FnExactLogOpen.f k l = some true := by
  refine ⟨3 * l.length + 6, ?_⟩
  unfold laws_FnExactLogOpen.f
  rw [szRecS_k l hl]
  simp only [Option.bind_some]
  by_cases h : (1048576 : Int) - (l.length : Int) < 0
  · simp [h]
  · have hcl := openL_len (l.map cv)
    obtain ⟨l1, m1⟩ := markRecS_k (l.map cv) (by simp; omega) (3 * l.length + 6) (by simp; omega)
    obtain ⟨l2, m2, m3⟩ := markHeld_k (openL (l.map cv)) (by omega) (3 * l.length + 5) (by omega)
    rw [List.length_map] at m1
    rw [if_neg h, if_neg h, toRecS_k l (by omega) _ (by omega)]
    simp only [Option.bind_some]
    rw [specLogOpen_k _ (by simp; omega) _ (by simp)]
    simp only [Option.bind_some]
    rw [implLogOpen_k _ (by simp; omega) _ (by simp)]
    simp only [Option.bind_some]
    rw [eqIntS_same _ (by omega) _ (by omega)]
    simp only [Option.bind_some, if_true]
    rw [eqRecS_k _ (by simp; omega) _ (by simp; omega)]
    simp only [Option.bind_some, if_true]
    rw [m1]
    simp only [Option.bind_some]
    rw [if_neg (by omega), laws_FnExactLogOpen.j0]
    simp only [Bool.not_true, Bool.false_eq_true, if_false]
    rw [m2]
    simp only [Option.bind_some]
    rw [m3]
    simp only [Option.bind_some]
    rw [if_neg (by omega), if_pos trivial, toRecS_k l (by omega) _ (by omega)]
    simp only [Option.bind_some]
    rw [implLogOpen_k _ (by simp; omega) _ (by simp)]
    simp only [Option.bind_some]
    rw [eqIntS_same _ (by omega) _ (by omega)]
    simp only [Option.bind_some, if_true]
    rw [if_neg (by omega)]
/-- The walk of the law: its printed contract, at the plain law. -/
theorem FnExactLogOpen_walk (A : Option Addr) (c : Nat) (l : List S58) (w : World) (hc : l.length ≤ c) (hC : Kd.C k58 w A l.length l) (hg : ∀ x ∈ l, Rec64 x) :
    Calls Try.prog 15 #[.slice A l.length c] w fun e w' => e = .returned (.bool true) ∧ Below w.heap.size w w' := by
  obtain ⟨k, h⟩ := PureFnExactLogOpen l hC.2.1 hg
  exact laws_FnExactLogOpen.calls k A c l true w hC hc h ⟨rfl⟩
end Go.Proofs.Ytcefiblpnegepaa.T
