/- What FnExactLogChain tells is true. -/
import Derived.Test.YtcefiblpnegepaaMarkP
import Derived.Test.YtcefiblpnegepaaPrLawXC
namespace Go.Proofs.Ytcefiblpnegepaa.T
open Go.RowKit Go.Proofs.YtcefiblpnegepaaW.PrintWords Go.Proofs.Ytcefiblpnegepaa.Pr
set_option linter.unusedSimpArgs false
set_option linter.unusedVariables false
theorem spec_chain_l (l : List S41) (ok : logOkB l = true) : ∀ (n k : Nat) (x : Int) (acc : List Int), 0 ≤ x → x ≤ (n : Int) → n ≤ l.length → n < k → acc.length + n ≤ 150 → spec_LogChain.l0 k l acc x = some (acc ++ chainB l n x)
  | 0, k + 1, x, acc, h0, h1, _, _, _ => by
    rw [spec_LogChain.l0, if_neg (by omega)]
    simp [chainB]
  | n + 1, k + 1, x, acc, h0, h1, hn, hk, ha => by
    rw [spec_LogChain.l0, chainB]
    by_cases hx : 0 < x
    · have hlen := logOk_len ok
      obtain ⟨j, rfl⟩ : ∃ j : Nat, x = (j : Int) + 1 := ⟨(x - 1).toNat, by omega⟩
      have e : (j : Int) + 1 - 1 = (j : Int) := by omega
      have b := prev_bd ok j (by omega)
      rw [if_pos hx, if_pos hx, e, T.wrap_small (by omega) (by omega), if_pos (by omega), if_pos (by omega), if_pos (by omega), spec_chain_l l ok n k _ _ b.1 (by omega) (by omega) (by omega) (by simp; omega)]
      simp
    · rw [if_neg hx, if_neg hx]
      simp
theorem impl_chain_l (l : List S41) (ok : logOkB l = true) : ∀ (n k : Nat) (x : Int) (acc : List Int), 0 ≤ x → x ≤ (n : Int) → n ≤ l.length → n < k → acc.length + n ≤ 150 → impl_chain.l0 k l acc x = some (acc ++ chainB l n x)
  | 0, k + 1, x, acc, h0, h1, _, _, _ => by
    rw [impl_chain.l0, if_pos (by omega)]
    simp [chainB]
  | n + 1, k + 1, x, acc, h0, h1, hn, hk, ha => by
    rw [impl_chain.l0, chainB]
    by_cases hx : 0 < x
    · have hlen := logOk_len ok
      obtain ⟨j, rfl⟩ : ∃ j : Nat, x = (j : Int) + 1 := ⟨(x - 1).toNat, by omega⟩
      have e : (j : Int) + 1 - 1 = (j : Int) := by omega
      have b := prev_bd ok j (by omega)
      rw [if_neg (by omega), if_pos hx, e, T.wrap_small (by omega) (by omega), if_pos (by omega), if_pos (by omega), if_pos (by omega), impl_chain_l l ok n k _ _ b.1 (by omega) (by omega) (by omega) (by simp; omega)]
      simp
    · rw [if_pos (by omega), if_neg hx]
      simp
/-- The chain that is told. -/
def chainL (l : List S41) (a : Int) : List Int := if logOkB l = true then chainB l l.length (lastB l a) else []
theorem chainL_len (l : List S41) (a : Int) : (chainL l a).length ≤ l.length := by
  unfold chainL
  split
  · exact chainB_len _ _ _
  · simp
theorem specLogChain_k (l : List S41) (a : Int) (hl : l.length ≤ 9223372036854775807) (k : Nat) (hk : 3 * l.length + 4 < k) : spec_LogChain.f k l a = some (chainL l a) := by
  unfold spec_LogChain.f chainL
  rw [spec_LogOk_k l hl k hk]
  simp only [Option.bind_some]
  by_cases ok : logOkB l = true
  · have hlen := logOk_len ok
    rw [if_pos ok, if_pos ok, l3Last_k l a hl k (by omega)]
    simp only [Option.bind_some]
    rw [spec_chain_l l ok l.length k _ _ (lastB_0 _ _) (lastB_n _ _) (by omega) (by omega) (by simpa using hlen)]
    simp
  · rw [if_neg ok, if_neg ok]
theorem implLogChain_k (l : List S41) (a : Int) (hl : l.length ≤ 9223372036854775807) (k : Nat) (hk : 3 * l.length + 4 < k) : impl_LogChain.f k l a = some (chainL l a) := by
  unfold impl_LogChain.f chainL
  rw [impl_LogOk_k l hl k hk]
  simp only [Option.bind_some]
  by_cases ok : logOkB l = true
  · have hlen := logOk_len ok
    rw [if_pos ok, if_pos ok]
    unfold impl_chain.f impl_last.f
    simp only [Option.bind_some]
    rw [impl_chain_l l ok l.length k _ _ (lastB_0 _ _) (lastB_n _ _) (by omega) (by omega) (by simpa using hlen)]
    simp
  · rw [if_neg ok, if_neg ok]
theorem PureFnExactLogChain (l : List S58) (a : Int) (hl : l.length ≤ 9223372036854775807) (hg : ∀ x ∈ l, Rec64 x) (ha : I64 a) : ∃ k, laws_FnExactLogChain.f k l a = some true := by
  refine ⟨3 * l.length + 6, ?_⟩
  unfold laws_FnExactLogChain.f
  rw [szRecS_k l hl]
  simp only [Option.bind_some]
  by_cases h : (1048576 : Int) - (l.length : Int) < 0
  · simp [h]
  · have hcl := chainL_len (l.map cv) a
    rw [List.length_map] at hcl
    obtain ⟨l1, m1⟩ := markRecS_k (l.map cv) (by simp; omega) (3 * l.length + 6) (by simp; omega)
    obtain ⟨l2, m2, m3⟩ := markHeld_k (chainL (l.map cv) a) (by omega) (3 * l.length + 5) (by omega)
    rw [List.length_map] at m1
    rw [if_neg h, if_neg h, toRecS_k l (by omega) _ (by omega)]
    simp only [Option.bind_some]
    rw [specLogChain_k _ _ (by simp; omega) _ (by simp)]
    simp only [Option.bind_some]
    rw [implLogChain_k _ _ (by simp; omega) _ (by simp)]
    simp only [Option.bind_some]
    rw [eqIntS_same _ (by omega) _ (by omega)]
    simp only [Option.bind_some, if_true]
    rw [eqRecS_k _ (by simp; omega) _ (by simp; omega)]
    simp only [Option.bind_some, if_true]
    rw [m1]
    simp only [Option.bind_some]
    rw [if_neg (by omega), laws_FnExactLogChain.j0]
    simp only [Bool.not_true, Bool.false_eq_true, if_false]
    rw [m2]
    simp only [Option.bind_some]
    rw [m3]
    simp only [Option.bind_some]
    rw [if_neg (by omega), if_pos trivial, toRecS_k l (by omega) _ (by omega)]
    simp only [Option.bind_some]
    rw [implLogChain_k _ _ (by simp; omega) _ (by simp)]
    simp only [Option.bind_some]
    rw [eqIntS_same _ (by omega) _ (by omega)]
    simp only [Option.bind_some, if_true]
    rw [if_neg (by omega)]
/-- The walk of the law: its printed contract, at the plain law. -/
theorem FnExactLogChain_walk (A : Option Addr) (c : Nat) (l : List S58) (a : Int) (w : World) (hc : l.length ≤ c) (hC : Kd.C k58 w A l.length l) (hg : ∀ x ∈ l, Rec64 x) (ha : I64 a) :
    Calls Try.prog 13 #[.slice A l.length c, .int .i64 a] w fun e w' => e = .returned (.bool true) ∧ Below w.heap.size w w' := by
  obtain ⟨k, h⟩ := PureFnExactLogChain l a hC.2.1 hg ha
  exact laws_FnExactLogChain.calls k A c l a true w hC hc h ⟨rfl⟩
end Go.Proofs.Ytcefiblpnegepaa.T
