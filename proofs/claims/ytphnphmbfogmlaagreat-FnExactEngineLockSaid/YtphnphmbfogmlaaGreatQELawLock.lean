import Derived.Test.YtphnphmbfogmlaaGreatQESizE
import Derived.Test.YtphnphmbfogmlaaGreatQEPrLawEL
namespace Go.Proofs.YtphnphmbfogmlaaGreat.T
open Go.RowKit Go.PW Go.Proofs.YtphnphmbfogmlaaGreat.Pr
set_option linter.unusedSimpArgs false
set_option linter.unusedVariables false
theorem Xcz {D M : List Pg} {L : List Rc} {s : Int} {d : Bool} {p : Int} (h : J7 D M L s d = true) (h0 : 0 ≤ p) (h5 : p ≤ 4) : Za L = true ∧ Uq L p ≤ 1 := by
 by_cases hl : Za L = true
 ·refine ⟨hl, ?_⟩
  by_cases hn : Uq L p ≤ 1
  ·exact hn
  ·have hp : Vy D M L s d (p.toNat : Int) = false := by
    unfold Vy
    rw [show ((p.toNat : Nat) : Int) = p by omega, decide_eq_false hn]
    simp
   rw [Sn p.toNat (by omega) hp] at h; exact absurd h (by simp)
 ·have hh : DR D M L s = false := by
   unfold DR
   rw [Bool.eq_false_iff.mpr hl]
   simp
  rw [VX hh] at h; exact absurd h (by simp)
theorem Xjk {L : List Rc} (ok : Za L = true) (D M : List Pg) (s : Int) (d : Bool) (p : Int) (k : Nat) (hk : 300 ≤ k) : YL.f k D M L s d p = some (XgM L p) := by
 obtain ⟨j, rfl⟩ : ∃ j, k = j + 1 + 1 + 1 + 1 := ⟨k - 4, by omega⟩
 unfold YL.f XgM
 rw [YL.l0, if_pos (by omega), XeC ok 1 p _ (by omega), Option.bind_some]
 by_cases h1 : hasB L 1 p = true
 ·rw [if_pos h1, if_pos h1]
 rw [if_neg h1, if_neg h1, show wrap64 ((1 : Int) + 1) = 2 from T.wrap_small (x := 1 + 1) (by omega) (by omega), YL.l0, if_pos (by omega), XeC ok 2 p _ (by omega), Option.bind_some]
 by_cases h2 : hasB L 2 p = true
 ·rw [if_pos h2, if_pos h2]
 rw [if_neg h2, if_neg h2, show wrap64 ((2 : Int) + 1) = 3 from T.wrap_small (x := 2 + 1) (by omega) (by omega), YL.l0, if_pos (by omega), XeC ok 3 p _ (by omega), Option.bind_some]
 by_cases h3 : hasB L 3 p = true
 ·rw [if_pos h3, if_pos h3]
 rw [if_neg h3, if_neg h3, show wrap64 ((3 : Int) + 1) = 4 from T.wrap_small (x := 3 + 1) (by omega) (by omega), YL.l0, if_neg (by omega)]
def Xhg (D M : List Pg) (L : List Rc) (s : Int) (d : Bool) (p : Int) : Int := if J7 D M L s d = true then (if inB p 0 4 = true then XgM L p else 0) else 0
theorem XrA (n lo hi : Int) : Fj.f n lo hi = some (inB n lo hi) := Gl n lo hi
theorem XaC {D M : List S73} {L : List S78} (F : Fit D M L) (s : Int) (d : Bool) (p : Int) (k : Nat) (hk : 16777216 < k) : Jj.f k (D.map cp) (M.map cp) (L.map cv) s d p = some (Xhg (D.map cp) (M.map cp) (L.map cv) s d p) := by
 unfold Jj.f Xhg
 rw [XeK F s d k hk, Option.bind_some]
 by_cases h : J7 (D.map cp) (M.map cp) (L.map cv) s d = true
 ·rw [if_pos h, if_pos h, Gl, Option.bind_some]
  by_cases hp : inB p 0 4 = true
  ·have hq : 0 ≤ p ∧ p ≤ 4 := by simpa [inB] using hp
   rw [if_pos hp, if_pos hp, Xjk (Xcz h hq.1 hq.2).1 _ _ _ _ _ k (by omega), Option.bind_some]
  ·rw [if_neg hp, if_neg hp]
 ·rw [if_neg h, if_neg h]
theorem XaD (D M : List Pg) (L : List Rc) (s : Int) (d : Bool) (p : Int) (k : Nat) : ZI.f k D M L s d p = some (Xhg D M L s d p) := by
 unfold ZI.f Xhg Xx.f
 rw [Option.bind_some]
 by_cases h : J7 D M L s d = true
 ·rw [if_pos h, if_pos h]
  unfold Vo.f
  rw [XrA, Option.bind_some, Option.bind_some]
  by_cases hp : inB p 0 4 = true
  ·have hq : 0 ≤ p ∧ p ≤ 4 := by simpa [inB] using hp
   obtain ⟨hl, hn⟩ := Xcz h hq.1 hq.2
   unfold Vb.f
   rw [if_pos hp, if_pos hp, if_pos hl, Option.bind_some, Xre L p hn]
  ·rw [if_neg hp, if_neg hp]
 ·rw [if_neg h, if_neg h]
theorem WI (D M : List S73) (L : List S78) (s : Int) (d : Bool) (p : Int) (H : Xna D M L) : ∃ k, Jv.f k D M L s d p = some true := by
 obtain ⟨k, hk⟩ : ∃ k : Nat, D.length + M.length + 16777216 < k := ⟨_, Nat.lt_succ_self _⟩
 refine ⟨k, ?_⟩
 unfold Jv.f
 obtain ⟨r, e, h⟩ := LQ D M L s d H.d H.dv H.m H.mv H.l k (by omega); rw [e, Option.bind_some]
 rcases h with h | ⟨h, F⟩
 ·rw [if_pos h]
 rw [if_neg (by omega)]
 obtain ⟨b, hb⟩ : ∃ b, Xhg (D.map cp) (M.map cp) (L.map cv) s d p = b := ⟨_, rfl⟩
 have hs := XaC F s d p k (by omega); have hi := XaD (D.map cp) (M.map cp) (L.map cv) s d p k; rw [hb] at hs hi; simp only [Wm F s d k (by omega), Option.bind_some, hs, hi, LU F s d k (by omega), if_true]
end Go.Proofs.YtphnphmbfogmlaaGreat.T
namespace Go.Proofs.YtphnphmbfogmlaaGreat.T
open Go.RowKit Go.PW Go.Proofs.YtphnphmbfogmlaaGreat.Pr
set_option linter.unusedVariables false
theorem Wo (A0 : Option Addr) (D : List S73) (c0 : Nat) (A1 : Option Addr) (M : List S73) (c1 : Nat) (A2 : Option Addr) (L : List S78) (c2 : Nat) (s : Int) (d : Bool) (p : Int) (w : World) (e0 : D.length ≤ c0 ∧ Kd.C k73 w A0 D.length D) (e1 : M.length ≤ c1 ∧ Kd.C k73 w A1 M.length M) (e2 : L.length ≤ c2 ∧ Kd.C k78 w A2 L.length L) (g : I64 p) :
 Calls Tryz.prog 3 #[.agg #[.slice A0 D.length c0, .slice A1 M.length c1, .slice A2 L.length c2, .int .i64 s, .bool d], .int .i64 p] w fun e w' => e = .returned (.bool true) ∧ Below w.heap.size w w' := by
 obtain ⟨k, h⟩ := WI D M L s d p (QF e0 e1 e2); exact Jv.calls k A0 c0 D A1 c1 M A2 c2 L s d p true w e0.2 e0.1 e1.2 e1.1 e2.2 e2.1 h ⟨rfl⟩
end Go.Proofs.YtphnphmbfogmlaaGreat.T
