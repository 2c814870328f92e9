/- What FnExactRecDo tells is true. -/
import Derived.Test.YtcefiblpnegepaaDoP
import Derived.Test.YtcefiblpnegepaaMarkI
import Derived.Test.YtcefiblpnegepaaOpen
import Derived.Test.YtcefiblpnegepaaPrLawXD
namespace Go.Proofs.Ytcefiblpnegepaa.T
open Go.RowKit Go.Proofs.YtcefiblpnegepaaW.PrintWords Go.Proofs.Ytcefiblpnegepaa.Pr
set_option linter.unusedSimpArgs false
set_option linter.unusedVariables false
theorem toPage_k (a b : Int) (l : List Int) (hl : l.length ≤ 1048576) (k : Nat) (hk : l.length < k) : laws_toPage.f k a b l = some (a, b, l) := by
  have h := leo_le (laws_toIntS.mono l) (toIntS_f l (by omega)) (k - (l.length + 1))
  rw [show l.length + 1 + (k - (l.length + 1)) = k by omega] at h
  unfold laws_toPage.f
  rw [h]
  rfl
theorem eqPage_k (a b : Int) (l : List Int) (hl : l.length ≤ 1048576) (k : Nat) (hk : l.length < k) : laws_eqPage.f k a b l a b l = some true := by
  have h := leo_le (laws_eqIntS.mono l l) (by simpa using eqIntS_f l l (by omega)) (k - (l.length + 1))
  rw [show l.length + 1 + (k - (l.length + 1)) = k by omega] at h
  unfold laws_eqPage.f
  rw [h]
  simp
theorem markPage_k (a b : Int) (l : List Int) (hl : l.length ≤ 1048576) (k : Nat) (hk : l.length < k) : ∃ l', laws_markPage.f k a b l 1 = some (1 + (l.length : Int), l') ∧ laws_heldPage.f k a b l' 1 = some (1 + (l.length : Int)) := by
  obtain ⟨l', e1, e2, e3⟩ := markIntS_l l.length 0 k 1 l (by omega) hk (by omega) (by omega) (by omega)
  have hm : laws_markIntS.f k l 1 = some (1 + (l.length : Int), l') := e1
  have h := heldIntS_l l' 1 (by omega) (by omega) (by omega) (fun j hj => by rw [e3 j, if_pos (by omega)]; omega) l'.length 0 k (by omega) (by omega)
  rw [e2] at h
  have hh : laws_heldIntS.f k l' 1 = some (1 + (l.length : Int)) := h
  refine ⟨l', ?_, ?_⟩
  · unfold laws_markPage.f
    rw [hm]
    rfl
  · unfold laws_heldPage.f
    rw [hh, Option.bind_some, if_neg (by omega)]
theorem PureFnExactRecDo (a b : Int) (l : List Int) (a0 a1 a2 a3 a4 a5 a6 a7 n : Int) (hl : l.length ≤ 9223372036854775807) : ∃ k, laws_FnExactRecDo.f k a b l a0 a1 a2 a3 a4 a5 a6 a7 n = some true := by
  refine ⟨l.length + 20, ?_⟩
  unfold laws_FnExactRecDo.f
  have hsz : laws_szPage.f a b l 1048576 = some (szB l.length 1048576) := by
    unfold laws_szPage.f
    rw [szIntS_f l 1048576 (by omega) (by omega) hl, Option.bind_some]
    unfold szB
    by_cases h : (1048576 : Int) - (l.length : Int) < 0
    · rw [if_pos h, if_pos (by omega)]
    · rw [if_neg h, if_neg h]
  rw [hsz]
  simp only [Option.bind_some]
  unfold szB
  by_cases h : (1048576 : Int) - (l.length : Int) < 0
  · simp [h]
  · have hl2 : l.length ≤ 1048576 := by omega
    have e1 := fun k hk => toPage_k a b l hl2 k hk
    have e2 := fun k hk => specDo_k a b l a0 a1 a2 a3 a4 a5 a6 a7 n hl k hk
    have e3 := fun k hk => implDo_k a b l a0 a1 a2 a3 a4 a5 a6 a7 n hl k hk
    have h3 := doB_len a b l a0 a1 a2 a3 a4 a5 a6 a7 n
    rcases hr : doB a b l a0 a1 a2 a3 a4 a5 a6 a7 n with ⟨r1, r2, r3, r4⟩
    rw [hr] at h3
    dsimp only at h3
    have e4 := fun k hk => eqPage_k r1 r2 r3 (by omega) k hk
    have e5 := fun k hk => eqPage_k a b l hl2 k hk
    obtain ⟨l1, m1, m2⟩ := markPage_k a b l hl2 (l.length + 19) (by omega)
    obtain ⟨l2, m3, m4⟩ := markPage_k r1 r2 r3 (by omega) (l.length + 18) (by omega)
    have m5 : laws_heldPage.f (l.length + 17) r1 r2 l2 1 = some (1 + (r3.length : Int)) := by
      obtain ⟨l2', q1, q2⟩ := markPage_k r1 r2 r3 (by omega) (l.length + 17) (by omega)
      have q3 := leo_le (laws_markPage.mono r1 r2 r3 1) q1 1
      rw [show l.length + 17 + 1 = l.length + 18 by omega, m3] at q3
      obtain ⟨-, rfl⟩ := Prod.mk.inj (Option.some.inj q3)
      exact q2
    rw [if_neg h, if_neg h, e1 _ (by omega)]
    simp only [Option.bind_some, laws_toRec.f]
    rw [e2 _ (by omega), e3 _ (by omega), hr]
    simp only [Option.bind_some]
    rw [e4 _ (by omega)]
    simp only [Option.bind_some, if_true, bne_self_eq_false]
    rw [laws_FnExactRecDo.j0, if_neg (by simp), e1 _ (by omega)]
    simp only [Option.bind_some]
    rw [e5 _ (by omega)]
    simp only [Option.bind_some, if_true]
    rw [m1]
    simp only [Option.bind_some]
    rw [if_neg (by omega), e4 _ (by omega)]
    simp only [Option.bind_some, if_true, bne_self_eq_false]
    rw [laws_FnExactRecDo.j1, if_neg (by simp), m3]
    simp only [Option.bind_some]
    rw [m4]
    simp only [Option.bind_some]
    rw [if_neg (by omega)]
    simp only [if_true]
    rw [e1 _ (by omega)]
    simp only [Option.bind_some, laws_toRec.f]
    rw [e3 _ (by omega), hr]
    simp only [Option.bind_some]
    rw [e4 _ (by omega)]
    simp only [Option.bind_some, if_true, bne_self_eq_false]
    rw [laws_FnExactRecDo.j2, if_neg (by simp), m5]
    simp only [Option.bind_some]
    rw [if_neg (by omega)]
    simp
/-- The walk of the law: its printed contract, at the plain law. -/
theorem FnExactRecDo_walk (a b : Int) (A : Option Addr) (c : Nat) (l : List Int) (a0 a1 a2 a3 a4 a5 a6 a7 n : Int) (w : World) (hc : l.length ≤ c) (hC : Kd.C (Kd.int .i64) w A l.length l) (g : I64 a0 ∧ I64 a1 ∧ I64 a2 ∧ I64 a3 ∧ I64 a4 ∧ I64 a5 ∧ I64 a6 ∧ I64 a7) (g2 : I64 n) :
    Calls Try.prog 9 #[.agg #[.int .i64 a, .int .i64 b, .slice A l.length c], .agg #[.int .i64 a0, .int .i64 a1, .int .i64 a2, .int .i64 a3, .int .i64 a4, .int .i64 a5, .int .i64 a6, .int .i64 a7], .int .i64 n] w fun e w' => e = .returned (.bool true) ∧ Below w.heap.size w w' := by
  obtain ⟨k, h⟩ := PureFnExactRecDo a b l a0 a1 a2 a3 a4 a5 a6 a7 n hC.2.1
  exact laws_FnExactRecDo.calls k a b A c l a0 a1 a2 a3 a4 a5 a6 a7 n true w hC hc h ⟨rfl⟩
end Go.Proofs.Ytcefiblpnegepaa.T
