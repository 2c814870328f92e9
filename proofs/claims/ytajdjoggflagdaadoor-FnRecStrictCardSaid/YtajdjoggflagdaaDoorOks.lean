/- What the tales of PageOk, PageEmpty and RecOk tell, and the contracts of these functions. -/
import Derived.Test.YtajdjoggflagdaaDoorPage2
import Derived.Test.YtajdjoggflagdaaDoorPrM
namespace Go.Proofs.YtajdjoggflagdaaDoor.Pr
open Go.RowKit Go.Proofs.YtajdjoggflagdaaDoorW.PrintWords Go.Proofs.YtajdjoggflagdaaDoor.T
set_option linter.unusedSimpArgs false
set_option linter.unusedVariables false
theorem leo_le {α : Type} {g : Nat → Option α} (m : ∀ k, LeO (g k) (g (k + 1))) {k : Nat} {r : α} (h : g k = some r) : ∀ d, g (k + d) = some r
  | 0 => h
  | d + 1 => m (k + d) r (leo_le m h d)
theorem leo_uniq {α : Type} {g : Nat → Option α} (m : ∀ k, LeO (g k) (g (k + 1))) {k k' : Nat} {r r' : α} (h : g k = some r) (h' : g k' = some r') : r = r' := by
  have e1 := leo_le m h k'
  have e2 := leo_le m h' k
  rw [Nat.add_comm] at e2
  rw [e1] at e2
  exact Option.some.inj e2
theorem l6In_f (n lo hi : Int) : spec_l6In.f n lo hi = some (inB n lo hi) := by
  unfold spec_l6In.f inB
  by_cases h : lo ≤ n
  · rw [if_pos h]
    simp [h]
  · rw [if_neg h]
    simp [h]
theorem rd_drop {l : List Int} {i : Nat} (h : i < l.length) : l.drop i = rd l i :: l.drop (i + 1) := by
  rw [List.drop_eq_getElem_cons h]
  simp [rd, List.getD_eq_getElem?_getD, List.getElem?_eq_getElem h]
theorem spec_PageOk_l (a b : Int) (l : List Int) (hl : l.length ≤ 9223372036854775807) : ∀ (d k i : Nat), i + d = l.length → d < k → spec_PageOk.l0 k i a b l = some (!(l.drop i).any (badAt b))
  | 0, k + 1, i, hi, _ => by
    unfold spec_PageOk.l0
    rw [if_neg (by omega), List.drop_of_length_le (by omega)]
    rfl
  | d + 1, k + 1, i, hi, hk => by
    unfold spec_PageOk.l0
    rw [if_pos (by omega), if_pos (by omega), T.wrap_small (by omega) (by omega), l6In_f]
    have e := rd_drop (l := l) (i := i) (by omega)
    have ih := spec_PageOk_l a b l hl d k (i + 1) (by omega) (by omega)
    rw [show (i : Int) + 1 = ((i + 1 : Nat) : Int) by omega, ih, e]
    simp only [Option.bind_some, List.any_cons, badAt]
    by_cases h1 : inB (rd l i) 0 9 = true
    · by_cases hb : b = 0
      · by_cases hz : rd l i = 0
        · simp [h1, hb, hz, inB]
        · simp [h1, hb, hz, inB]
      · simp [h1, hb]
    · simp [h1]
theorem spec_PageOk_k (a b : Int) (l : List Int) (hl : l.length ≤ 9223372036854775807) (k : Nat) (hk : l.length + 1 < k) : spec_PageOk.f k a b l = some (pageOkB a b l) := by
  obtain ⟨k, rfl⟩ : ∃ j, k = j + 1 := ⟨k - 1, by omega⟩
  unfold spec_PageOk.f
  rw [l6In_f, l6In_f, pageOkB_at]
  have h := spec_PageOk_l a b l hl l.length k 0 (by omega) (by omega)
  have h3 : ((l.length : Int) != 3) = !(l.length == 3) := by
    rw [Bool.eq_iff_iff]
    simp only [bne_iff_ne, Bool.not_eq_true', beq_eq_false_iff_ne, ne_eq]
    omega
  rw [h3]
  simp only [Option.bind_some, spec_PageOk.j0]
  cases inB a 0 150 <;> cases inB b 0 3 <;> cases l.length == 3 <;> simp
  simpa using h
theorem spec_PageOk.calls (k : Nat) (a0_0 : Int) (a0_1 : Int) (A0_2 : Option Addr) (c0_2 : Nat) (l0_2 : List Int) (r : Bool) (w : World) (hr0_2 : Kd.C (Kd.int .i64) w A0_2 l0_2.length l0_2) (hc0_2 : l0_2.length ≤ c0_2) (h : spec_PageOk.f k a0_0 a0_1 l0_2 = some r) :
    Calls Tryd.prog 36 #[.agg #[.int .i64 a0_0, .int .i64 a0_1, .slice A0_2 l0_2.length c0_2]] w fun e w' => e = .returned (.bool r) ∧ Below w.heap.size w w' := by
  obtain rfl : r = pageOkB a0_0 a0_1 l0_2 := leo_uniq (spec_PageOk.mono _ _ _) h (spec_PageOk_k _ _ _ hr0_2.2.1 (l0_2.length + 2) (by omega))
  exact specPageOk_calls _ _ _ _ _ _ hr0_2 hc0_2
theorem l2Of_k (k tx p s o n pv nx : Int) (j : Nat) : spec_l2Of.f (j + 1) k tx p s o n pv nx = some (l2OfB p s o n) := by
  unfold spec_l2Of.f l2OfB
  simp only [l6In_f, Option.bind_some, spec_l2Of.j0]
  cases h1 : inB p 0 4 <;> cases h2 : inB s (-1) 2 <;> simp
  by_cases hs : s < 0
  · simp only [hs, if_true]
    cases inB o 0 3 <;> simp
  · simp only [hs, if_false]
    cases inB o 0 9 <;> simp
theorem spec_RecOk_k (k tx p s o n pv nx : Int) (j : Nat) : spec_RecOk.f (j + 2) k tx p s o n pv nx = some (recOkB k tx p s o n pv nx) := by
  unfold spec_RecOk.f
  rw [recOkB_l2]
  simp only [l6In_f, Option.bind_some, spec_RecOk.j0, l2Of_k]
  cases h1 : inB tx 1 3 <;> cases h2 : inB pv 0 150 <;> cases h3 : inB nx 0 150 <;> simp
  repeat' split
  all_goals try simp_all
  all_goals (try (intros; omega))
theorem spec_RecOk.calls (k : Nat) (a0_0 : Int) (a0_1 : Int) (a0_2 : Int) (a0_3 : Int) (a0_4 : Int) (a0_5 : Int) (a0_6 : Int) (a0_7 : Int) (r : Bool) (w : World) (h : spec_RecOk.f k a0_0 a0_1 a0_2 a0_3 a0_4 a0_5 a0_6 a0_7 = some r) :
    Calls Tryd.prog 43 #[.agg #[.int .i64 a0_0, .int .i64 a0_1, .int .i64 a0_2, .int .i64 a0_3, .int .i64 a0_4, .int .i64 a0_5, .int .i64 a0_6, .int .i64 a0_7]] w fun e w' => e = .returned (.bool r) ∧ Below w.heap.size w w' := by
  obtain rfl : r = recOkB a0_0 a0_1 a0_2 a0_3 a0_4 a0_5 a0_6 a0_7 := leo_uniq (spec_RecOk.mono _ _ _ _ _ _ _ _) h (spec_RecOk_k _ _ _ _ _ _ _ _ 0)
  exact specRecOk_calls _ _ _ _ _ _ _ _ _
end Go.Proofs.YtajdjoggflagdaaDoor.Pr
