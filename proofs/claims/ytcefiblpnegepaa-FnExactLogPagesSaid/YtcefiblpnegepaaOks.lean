/- What the tales of PageOk, PageEmpty and RecOk tell, and the contracts of these functions. -/
import Derived.Test.YtcefiblpnegepaaPage2
import Derived.Test.YtcefiblpnegepaaPrM
namespace Go.Proofs.Ytcefiblpnegepaa.Pr
open Go.RowKit Go.Proofs.YtcefiblpnegepaaW.PrintWords Go.Proofs.Ytcefiblpnegepaa.T
set_option linter.unusedSimpArgs false
set_option linter.unusedVariables false
theorem leo_le {α : Type} {g : Nat → Option α} (m : ∀ k, LeO (g k) (g (k + 1))) {k : Nat} {r : α} (h : g k = some r) : ∀ d, g (k + d) = some r
  | 0 => h
  | d + 1 => m (k + d) r (leo_le m h d)
theorem leo_uniq {α : Type} {g : Nat → Option α} (m : ∀ k, LeO (g k) (g (k + 1))) {k k' : Nat} {r r' : α} (h : g k = some r) (h' : g k' = some r') : r = r' := by
  have e1 := leo_le m h k'
  have e2 := leo_le m h' k
  rw [Nat.add_comm] at e2
  rw [e1] at e2
  exact Option.some.inj e2
theorem l6In_f (n lo hi : Int) : spec_l6In.f n lo hi = some (inB n lo hi) := by
  unfold spec_l6In.f inB
  by_cases h : lo ≤ n
  · rw [if_pos h]
    simp [h]
  · rw [if_neg h]
    simp [h]
theorem rd_drop {l : List Int} {i : Nat} (h : i < l.length) : l.drop i = rd l i :: l.drop (i + 1) := by
  rw [List.drop_eq_getElem_cons h]
  simp [rd, List.getD_eq_getElem?_getD, List.getElem?_eq_getElem h]
theorem l1Empty_l (a b : Int) (l : List Int) (hl : l.length ≤ 9223372036854775807) : ∀ (d k i : Nat), i + d = l.length → d < k → spec_l1Empty.l0 k i a b l = some (allZeroB (l.drop i))
  | 0, k + 1, i, hi, _ => by
    unfold spec_l1Empty.l0
    rw [if_neg (by omega), List.drop_of_length_le (by omega)]
    rfl
  | d + 1, k + 1, i, hi, hk => by
    unfold spec_l1Empty.l0
    rw [if_pos (by omega), if_pos (by omega), T.wrap_small (by omega) (by omega)]
    have e := rd_drop (l := l) (i := i) (by omega)
    have ih := l1Empty_l a b l hl d k (i + 1) (by omega) (by omega)
    by_cases hz : rd l i = 0
    · first | rw [if_pos hz] | rw [if_neg (by simp [hz])]
      rw [show (i : Int) + 1 = ((i + 1 : Nat) : Int) by omega, ih, e]
      simp [allZeroB, badZero, hz]
    · first | rw [if_neg hz] | rw [if_pos hz]
      rw [e]
      simp [allZeroB, badZero, hz]
theorem l1Empty_k (a b : Int) (l : List Int) (hl : l.length ≤ 9223372036854775807) (k : Nat) (hk : l.length < k) : spec_l1Empty.f k a b l = some (allZeroB l) := by
  unfold spec_l1Empty.f
  have h := l1Empty_l a b l hl l.length k 0 (by omega) (by omega)
  simpa using h
theorem spec_PageOk_l (a b : Int) (l : List Int) (hl : l.length ≤ 9223372036854775807) : ∀ (d k i : Nat), i + d = l.length → d < k → spec_PageOk.l0 k i a b l = some (!(l.drop i).any (badAt b))
  | 0, k + 1, i, hi, _ => by
    unfold spec_PageOk.l0
    rw [if_neg (by omega), List.drop_of_length_le (by omega)]
    rfl
  | d + 1, k + 1, i, hi, hk => by
    unfold spec_PageOk.l0
    rw [if_pos (by omega), if_pos (by omega), T.wrap_small (by omega) (by omega), l6In_f]
    have e := rd_drop (l := l) (i := i) (by omega)
    have ih := spec_PageOk_l a b l hl d k (i + 1) (by omega) (by omega)
    rw [show (i : Int) + 1 = ((i + 1 : Nat) : Int) by omega, ih, e]
    simp only [Option.bind_some, List.any_cons, badAt]
    by_cases h1 : inB (rd l i) 0 9 = true
    · by_cases hb : b = 0
      · by_cases hz : rd l i = 0
        · simp [h1, hb, hz, inB]
        · simp [h1, hb, hz, inB]
      · simp [h1, hb]
    · simp [h1]
theorem spec_PageOk_k (a b : Int) (l : List Int) (hl : l.length ≤ 9223372036854775807) (k : Nat) (hk : l.length + 1 < k) : spec_PageOk.f k a b l = some (pageOkB a b l) := by
  obtain ⟨k, rfl⟩ : ∃ j, k = j + 1 := ⟨k - 1, by omega⟩
  unfold spec_PageOk.f
  rw [l6In_f, l6In_f, pageOkB_at]
  have h := spec_PageOk_l a b l hl l.length k 0 (by omega) (by omega)
  have h3 : ((l.length : Int) != 3) = !(l.length == 3) := by
    rw [Bool.eq_iff_iff]
    simp only [bne_iff_ne, Bool.not_eq_true', beq_eq_false_iff_ne, ne_eq]
    omega
  rw [h3]
  simp only [Option.bind_some, spec_PageOk.j0]
  cases inB a 0 150 <;> cases inB b 0 3 <;> cases l.length == 3 <;> simp
  simpa using h
theorem spec_PageOk.calls (k : Nat) (a0_0 : Int) (a0_1 : Int) (A0_2 : Option Addr) (c0_2 : Nat) (l0_2 : List Int) (r : Bool) (w : World) (hr0_2 : Kd.C (Kd.int .i64) w A0_2 l0_2.length l0_2) (hc0_2 : l0_2.length ≤ c0_2) (h : spec_PageOk.f k a0_0 a0_1 l0_2 = some r) :
    Calls Try.prog 26 #[.agg #[.int .i64 a0_0, .int .i64 a0_1, .slice A0_2 l0_2.length c0_2]] w fun e w' => e = .returned (.bool r) ∧ Below w.heap.size w w' := by
  obtain rfl : r = pageOkB a0_0 a0_1 l0_2 := leo_uniq (spec_PageOk.mono _ _ _) h (spec_PageOk_k _ _ _ hr0_2.2.1 (l0_2.length + 2) (by omega))
  exact specPageOk_calls _ _ _ _ _ _ hr0_2 hc0_2
theorem spec_PageEmpty_k (a b : Int) (l : List Int) (hl : l.length ≤ 9223372036854775807) (k : Nat) (hk : l.length + 1 < k) : spec_PageEmpty.f k a b l = some (pageEmptyB a b l) := by
  unfold spec_PageEmpty.f pageEmptyB
  rw [spec_PageOk_k a b l hl k hk, l1Empty_k a b l hl k (by omega)]
  simp only [Option.bind_some]
  cases pageOkB a b l <;> simp
theorem spec_PageEmpty.calls (k : Nat) (a0_0 : Int) (a0_1 : Int) (A0_2 : Option Addr) (c0_2 : Nat) (l0_2 : List Int) (r : Bool) (w : World) (hr0_2 : Kd.C (Kd.int .i64) w A0_2 l0_2.length l0_2) (hc0_2 : l0_2.length ≤ c0_2) (h : spec_PageEmpty.f k a0_0 a0_1 l0_2 = some r) :
    Calls Try.prog 30 #[.agg #[.int .i64 a0_0, .int .i64 a0_1, .slice A0_2 l0_2.length c0_2]] w fun e w' => e = .returned (.bool r) ∧ Below w.heap.size w w' := by
  obtain rfl : r = pageEmptyB a0_0 a0_1 l0_2 := leo_uniq (spec_PageEmpty.mono _ _ _) h (spec_PageEmpty_k _ _ _ hr0_2.2.1 (l0_2.length + 2) (by omega))
  exact specPageEmpty_calls _ _ _ _ _ _ hr0_2 hc0_2
theorem impl_PageOk_l (a b : Int) (l : List Int) (hl : l.length ≤ 9223372036854775807) : ∀ (d k i : Nat), i + d = l.length → d < k → impl_PageOk.l0 k i a b l = some (!(l.drop i).any (badAt b))
  | 0, k + 1, i, hi, _ => by
    unfold impl_PageOk.l0
    rw [if_neg (by omega), List.drop_of_length_le (by omega)]
    rfl
  | d + 1, k + 1, i, hi, hk => by
    unfold impl_PageOk.l0
    rw [if_pos (by omega), if_pos (by omega), T.wrap_small (by omega) (by omega), l6In_f]
    have e := rd_drop (l := l) (i := i) (by omega)
    have ih := impl_PageOk_l a b l hl d k (i + 1) (by omega) (by omega)
    rw [show (i : Int) + 1 = ((i + 1 : Nat) : Int) by omega, ih, e]
    simp only [Option.bind_some, List.any_cons, badAt]
    by_cases h1 : inB (rd l i) 0 9 = true
    · by_cases hb : b = 0
      · by_cases hz : rd l i = 0
        · simp [h1, hb, hz, inB]
        · simp [h1, hb, hz, inB]
      · simp [h1, hb]
    · simp [h1]
theorem impl_PageOk_k (a b : Int) (l : List Int) (hl : l.length ≤ 9223372036854775807) (k : Nat) (hk : l.length + 1 < k) : impl_PageOk.f k a b l = some (pageOkB a b l) := by
  obtain ⟨k, rfl⟩ : ∃ j, k = j + 1 := ⟨k - 1, by omega⟩
  unfold impl_PageOk.f
  rw [l6In_f, l6In_f, pageOkB_at]
  have h := impl_PageOk_l a b l hl l.length k 0 (by omega) (by omega)
  have h3 : ((l.length : Int) != 3) = !(l.length == 3) := by
    rw [Bool.eq_iff_iff]
    simp only [bne_iff_ne, Bool.not_eq_true', beq_eq_false_iff_ne, ne_eq]
    omega
  rw [h3]
  simp only [Option.bind_some, impl_PageOk.j0]
  cases inB a 0 150 <;> cases inB b 0 3 <;> cases l.length == 3 <;> simp
  simpa using h
theorem impl_PageOk.calls (k : Nat) (a0_0 : Int) (a0_1 : Int) (A0_2 : Option Addr) (c0_2 : Nat) (l0_2 : List Int) (r : Bool) (w : World) (hr0_2 : Kd.C (Kd.int .i64) w A0_2 l0_2.length l0_2) (hc0_2 : l0_2.length ≤ c0_2) (h : impl_PageOk.f k a0_0 a0_1 l0_2 = some r) :
    Calls Try.prog 25 #[.agg #[.int .i64 a0_0, .int .i64 a0_1, .slice A0_2 l0_2.length c0_2]] w fun e w' => e = .returned (.bool r) ∧ Below w.heap.size w w' := by
  obtain rfl : r = pageOkB a0_0 a0_1 l0_2 := leo_uniq (impl_PageOk.mono _ _ _) h (impl_PageOk_k _ _ _ hr0_2.2.1 (l0_2.length + 2) (by omega))
  exact implPageOk_calls _ _ _ _ _ _ hr0_2 hc0_2
theorem impl_PageEmpty_k (a b : Int) (l : List Int) (hl : l.length ≤ 9223372036854775807) (k : Nat) (hk : l.length + 1 < k) : impl_PageEmpty.f k a b l = some (pageEmptyB a b l) := by
  unfold impl_PageEmpty.f pageEmptyB
  rw [spec_PageOk_k a b l hl k hk, l1Empty_k a b l hl k (by omega)]
  simp only [Option.bind_some]
  cases pageOkB a b l <;> simp
theorem impl_PageEmpty.calls (k : Nat) (a0_0 : Int) (a0_1 : Int) (A0_2 : Option Addr) (c0_2 : Nat) (l0_2 : List Int) (r : Bool) (w : World) (hr0_2 : Kd.C (Kd.int .i64) w A0_2 l0_2.length l0_2) (hc0_2 : l0_2.length ≤ c0_2) (h : impl_PageEmpty.f k a0_0 a0_1 l0_2 = some r) :
    Calls Try.prog 27 #[.agg #[.int .i64 a0_0, .int .i64 a0_1, .slice A0_2 l0_2.length c0_2]] w fun e w' => e = .returned (.bool r) ∧ Below w.heap.size w w' := by
  obtain rfl : r = pageEmptyB a0_0 a0_1 l0_2 := leo_uniq (impl_PageEmpty.mono _ _ _) h (impl_PageEmpty_k _ _ _ hr0_2.2.1 (l0_2.length + 2) (by omega))
  exact implPageEmpty_calls _ _ _ _ _ _ hr0_2 hc0_2
theorem l2Of_k (k tx p s o n pv nx : Int) (j : Nat) : spec_l2Of.f (j + 1) k tx p s o n pv nx = some (l2OfB p s o n) := by
  unfold spec_l2Of.f l2OfB
  simp only [l6In_f, Option.bind_some, spec_l2Of.j0]
  cases h1 : inB p 0 4 <;> cases h2 : inB s (-1) 2 <;> simp
  by_cases hs : s < 0
  · simp only [hs, if_true]
    cases inB o 0 3 <;> simp
  · simp only [hs, if_false]
    cases inB o 0 9 <;> simp
theorem spec_RecOk_k (k tx p s o n pv nx : Int) (j : Nat) : spec_RecOk.f (j + 2) k tx p s o n pv nx = some (recOkB k tx p s o n pv nx) := by
  unfold spec_RecOk.f
  rw [recOkB_l2]
  simp only [l6In_f, Option.bind_some, spec_RecOk.j0, l2Of_k]
  cases h1 : inB tx 1 3 <;> cases h2 : inB pv 0 150 <;> cases h3 : inB nx 0 150 <;> simp
  repeat' split
  all_goals try simp_all
  all_goals (try (intros; omega))
theorem spec_RecOk.calls (k : Nat) (a0_0 : Int) (a0_1 : Int) (a0_2 : Int) (a0_3 : Int) (a0_4 : Int) (a0_5 : Int) (a0_6 : Int) (a0_7 : Int) (r : Bool) (w : World) (h : spec_RecOk.f k a0_0 a0_1 a0_2 a0_3 a0_4 a0_5 a0_6 a0_7 = some r) :
    Calls Try.prog 83 #[.agg #[.int .i64 a0_0, .int .i64 a0_1, .int .i64 a0_2, .int .i64 a0_3, .int .i64 a0_4, .int .i64 a0_5, .int .i64 a0_6, .int .i64 a0_7]] w fun e w' => e = .returned (.bool r) ∧ Below w.heap.size w w' := by
  obtain rfl : r = recOkB a0_0 a0_1 a0_2 a0_3 a0_4 a0_5 a0_6 a0_7 := leo_uniq (spec_RecOk.mono _ _ _ _ _ _ _ _) h (spec_RecOk_k _ _ _ _ _ _ _ _ 0)
  exact specRecOk_calls _ _ _ _ _ _ _ _ _
theorem impl_RecOk_k (k tx p s o n pv nx : Int) (j : Nat) : impl_RecOk.f (j + 2) k tx p s o n pv nx = some (recOkB k tx p s o n pv nx) := by
  unfold impl_RecOk.f
  rw [recOkB_l2]
  simp only [l6In_f, Option.bind_some, impl_RecOk.j0, l2Of_k]
  cases h1 : inB tx 1 3 <;> cases h2 : inB pv 0 150 <;> cases h3 : inB nx 0 150 <;> simp
  repeat' split
  all_goals try simp_all
  all_goals (try (intros; omega))
theorem impl_RecOk.calls (k : Nat) (a0_0 : Int) (a0_1 : Int) (a0_2 : Int) (a0_3 : Int) (a0_4 : Int) (a0_5 : Int) (a0_6 : Int) (a0_7 : Int) (r : Bool) (w : World) (h : impl_RecOk.f k a0_0 a0_1 a0_2 a0_3 a0_4 a0_5 a0_6 a0_7 = some r) :
    Calls Try.prog 41 #[.agg #[.int .i64 a0_0, .int .i64 a0_1, .int .i64 a0_2, .int .i64 a0_3, .int .i64 a0_4, .int .i64 a0_5, .int .i64 a0_6, .int .i64 a0_7]] w fun e w' => e = .returned (.bool r) ∧ Below w.heap.size w w' := by
  obtain rfl : r = recOkB a0_0 a0_1 a0_2 a0_3 a0_4 a0_5 a0_6 a0_7 := leo_uniq (impl_RecOk.mono _ _ _ _ _ _ _ _) h (impl_RecOk_k _ _ _ _ _ _ _ _ 0)
  exact implRecOk_calls _ _ _ _ _ _ _ _ _
end Go.Proofs.Ytcefiblpnegepaa.Pr
