import Derived.Test.YtphnphmbfogmlaaGreatQESizE
import Derived.Test.YtphnphmbfogmlaaGreatQEPrLawEO
namespace Go.Proofs.YtphnphmbfogmlaaGreat.T
open Go.RowKit Go.PW Go.Proofs.YtphnphmbfogmlaaGreat.Pr
set_option linter.unusedSimpArgs false
set_option linter.unusedVariables false
theorem KW (D M : List S73) (L : List S78) (s : Int) (d : Bool) (H : Xna D M L) : ∃ k, JL.f k D M L s d = some true := by
 obtain ⟨k, hk⟩ : ∃ k : Nat, D.length + M.length + 16777216 < k := ⟨_, Nat.lt_succ_self _⟩
 refine ⟨k, ?_⟩
 unfold JL.f
 obtain ⟨r, e, h⟩ := LQ D M L s d H.d H.dv H.m H.mv H.l k (by omega); rw [e, Option.bind_some]
 rcases h with h | ⟨h, F⟩
 ·rw [if_pos h]
 rw [if_neg (by omega)]
 obtain ⟨b, hb⟩ : ∃ b, J7 (D.map cp) (M.map cp) (L.map cv) s d = b := ⟨_, rfl⟩
 have hs := XeK F s d k (by omega); rw [hb] at hs
 have hi : Xx.f k (D.map cp) (M.map cp) (L.map cv) s d = some b := by unfold Xx.f; rw [hb]
 simp only [Wm F s d k (by omega), Option.bind_some, hs, hi, LU F s d k (by omega), bne_self_eq_false, if_true]
 simp
end Go.Proofs.YtphnphmbfogmlaaGreat.T
namespace Go.Proofs.YtphnphmbfogmlaaGreat.T
open Go.RowKit Go.PW Go.Proofs.YtphnphmbfogmlaaGreat.Pr
set_option linter.unusedVariables false
theorem PS (A0 : Option Addr) (D : List S73) (c0 : Nat) (A1 : Option Addr) (M : List S73) (c1 : Nat) (A2 : Option Addr) (L : List S78) (c2 : Nat) (s : Int) (d : Bool) (w : World) (e0 : D.length ≤ c0 ∧ Kd.C k73 w A0 D.length D) (e1 : M.length ≤ c1 ∧ Kd.C k73 w A1 M.length M) (e2 : L.length ≤ c2 ∧ Kd.C k78 w A2 L.length L) :
 Calls Tryz.prog 7 #[.agg #[.slice A0 D.length c0, .slice A1 M.length c1, .slice A2 L.length c2, .int .i64 s, .bool d]] w fun e w' => e = .returned (.bool true) ∧ Below w.heap.size w w' := by
 obtain ⟨k, h⟩ := KW D M L s d (QF e0 e1 e2); exact JL.calls k A0 c0 D A1 c1 M A2 c2 L s d true w e0.2 e0.1 e1.2 e1.1 e2.2 e2.1 h ⟨rfl⟩
end Go.Proofs.YtphnphmbfogmlaaGreat.T
