import Derived.Test.YtcefiblpnegepaaQALLastP
import Derived.Test.YtcefiblpnegepaaQAPrLawDL
import Derived.Test.YtcefiblpnegepaaQAPuLog
namespace Go.Proofs.Ytcefiblpnegepaa.T
open Go.RowKit Go.PW Go.Proofs.Ytcefiblpnegepaa.Pr
set_option linter.unusedSimpArgs false
set_option linter.unusedVariables false
theorem IG {l : List Rc} (hl : l.length ≤ 152) (a : Int) : ∀ (i k : Nat), i ≤ l.length → i < k → XE.l0 k l a (lastB (l.take i) a) ((i : Int) - 1) = some true
  | 0, k + 1, _, _ => by
    rw [XE.l0, if_neg (by omega)]
    rfl
  | i + 1, k + 1, hi, hk => by
    have e : ((i + 1 : Nat) : Int) - 1 = (i : Int) := by omega
    rw [e, XE.l0, if_pos (by omega), if_pos (by omega), if_pos (by omega), XW l i (by omega), Mj (by omega) (by omega)]
    by_cases h1 : (Xa l (i : Int)).f1 = a
    · rw [if_pos h1, if_pos h1]
      by_cases h4 : (Xa l (i : Int)).f0 = 4
      · rw [if_pos h4, if_pos (show (if (Xa l (i : Int)).f0 = 4 ∨ (Xa l (i : Int)).f0 = 5 then (0 : Int) else (i : Int) + 1) = 0 from if_pos (Or.inl h4))]
      · rw [if_neg h4]
        by_cases h5 : (Xa l (i : Int)).f0 = 5
        · rw [if_pos (show (if (Xa l (i : Int)).f0 = 4 ∨ (Xa l (i : Int)).f0 = 5 then (0 : Int) else (i : Int) + 1) = 0 from if_pos (Or.inr h5)), if_pos h5]
        · rw [if_neg (show ¬ ((Xa l (i : Int)).f0 = 4 ∨ (Xa l (i : Int)).f0 = 5) from fun h => h.elim h4 h5), if_neg (by omega), if_pos rfl]
          simp [h5]
    · rw [if_neg h1, if_neg h1, show wrap64 ((i : Int) - 1) = (i : Int) - 1 from T.wrap_small (by omega) (by omega)]
      exact IG hl a i k (by omega) (by omega)
theorem OC (l : List Int) (hby : Bytes l) : ∃ k, XE.f k l = some true := by
  refine ⟨6000, ?_⟩
  unfold XE.f
  split
  · rfl
  obtain ⟨x, t, e, hx⟩ := Nu l hby 6000 (by omega); have h1 := Uh x t (by omega) 6000 (by omega); have h2 := PK x t (by omega) 6000 (by omega); have h3 := VB x (by omega) 6000 (by omega); simp only [e, h1, h2, h3, Option.bind_some, if_true]; rw [show (6000 : Nat) = 5999 + 1 from rfl, XE.j0]
  cases ok : YW x with
  | false =>
    rw [if_pos (by simp), PK x t (by omega) 5999 (by omega), Option.bind_some, ok]
    simp
  | true =>
    rw [if_neg (by simp), if_pos rfl, show wrap64 ((x.length : Int) - 1) = (x.length : Int) - 1 from T.wrap_small (by omega) (by omega)]; have h := IG (l := x) (by omega) t x.length 5999 (Nat.le_refl _) (by omega); rw [List.take_length] at h; exact h
end Go.Proofs.Ytcefiblpnegepaa.T
namespace Go.Proofs.Ytcefiblpnegepaa.T
open Go.RowKit Go.PW Go.Proofs.Ytcefiblpnegepaa.Pr
set_option linter.unusedVariables false
theorem Oq (A : Option Addr) (c : Nat) (l : List Int) (w : World) (hc : l.length ≤ c) (hC : Kd.C (Kd.int .u8) w A l.length l) (hby : Bytes l) :
    Calls Try.prog 17 #[.slice A l.length c] w fun e w' => e = .returned (.bool true) ∧ Below w.heap.size w w' := by
  obtain ⟨k, h⟩ := OC l hby
  exact XE.calls k A c l true w hC hc h
end Go.Proofs.Ytcefiblpnegepaa.T
