/- Contracts of the functions that look at one page, the reference's and the laws' own; and of the making of pages. -/
import Derived.Test.YtajdjoggflagdaaDoorPage
namespace Go.Proofs.YtajdjoggflagdaaDoor.T
open Go.RowKit Go.Proofs.YtajdjoggflagdaaDoorW.PrintWords
set_option linter.unusedSimpArgs false
set_option linter.unusedVariables false

theorem CI_alloc {w : World} {A : Option Addr} {l : List Int} (h : CI w A l) (o : Obj) : CI (w.alloc o) A l := CI_below h (bl0 o)
theorem CI_drew {w : World} {A : Option Addr} {l : List Int} (h : CI w A l) : CI w.drew A l := CI_below h (below_drew (Below.refl _ _))
theorem CI_drewN {w : World} {A : Option Addr} {l : List Int} (h : CI w A l) (n : Nat) : CI (w.drewN n) A l := CI_below h (pw_below_drewN (Below.refl _ _) n)
def badAt (b x : Int) : Bool := !inB x 0 9 || (b == 0 && x != 0)
theorem any_or (l : List Int) (p q : Int → Bool) : l.any (fun x => p x || q x) = (l.any p || l.any q) := by
  induction l with
  | nil => rfl
  | cons x l ih => simp only [List.any_cons, ih]; cases p x <;> cases q x <;> simp
theorem pageOkB_at (a b : Int) (l : List Int) : pageOkB a b l = (inB a 0 150 && inB b 0 3 && l.length == 3 && !l.any (badAt b)) := by
  unfold pageOkB valsOkB allZeroB
  by_cases hb : b = 0
  · subst hb
    have e : l.any (badAt 0) = (l.any badVal || l.any badZero) := by rw [← any_or]; rfl
    rw [e]
    cases l.any badVal <;> cases l.any badZero <;> simp
  · have e : badAt b = badVal := by
      funext x
      have h2 : (b == 0) = false := by rw [beq_eq_false_iff_ne]; exact hb
      unfold badAt badVal
      rw [h2, Bool.false_and, Bool.or_false]
    have h2 : (b != 0) = true := by rw [bne_iff_ne]; exact hb
    rw [e, h2, Bool.true_or, Bool.and_true, Bool.and_assoc (inB a 0 150 && inB b 0 3)]
theorem any_at {l : List Int} {p : Int → Bool} {k : Nat} (h : k < l.length) (hp : p (rd l k) = true) : l.any p = true := by
  rw [List.any_eq_true]
  refine ⟨l[k], List.getElem_mem h, ?_⟩
  simpa [rd, List.getD_eq_getElem?_getD, List.getElem?_eq_getElem h] using hp
set_option maxHeartbeats 1000000 in
set_option maxRecDepth 100000 in
theorem specPageOk_calls (a b : Int) (A : Option Addr) (c : Nat) (l : List Int) (w : World) (hC : CI w A l) (hc : l.length ≤ c) :
    Calls Tryd.prog 36 #[.agg #[.int .i64 a, .int .i64 b, .slice A l.length c]] w fun e w' => e = .returned (.bool (pageOkB a b l)) ∧ Below w.heap.size w w' := by
  have hm : l.length ≤ 9223372036854775807 := hC.2.1
  have HC := Aside0.mk hC
  clear hC
  have HC1 : ∀ o, Aside0 (CI (w.alloc o) A l) := fun o => ⟨CI_below HC.out (bl0 o)⟩
  by_cases h : inB a 0 150 = true ∧ inB b 0 3 = true ∧ l.length = 3
  · obtain ⟨h1, h2, h3⟩ := h
    have h3b : ((l.length : Int) != 3) = false := by simp; omega
    have H3 := Aside0.mk h3
    clear h3
    go_enter Tryd.func36, Tryd.ntmps36
    go_wp2_with (go_at_call 62; refine (l6In_calls _ _ _ _).mono ?_; rintro e w' ⟨rfl, rfl⟩)
    go_loop [3] (fun i => ∃ k : Nat, k ≤ l.length ∧ i = .int .i64 k ∧ Aside0 ((l.take k).any (badAt b) = false)) (fun i => l.length - (intOf i).toNat)
    case atStart => exact ⟨0, Nat.zero_le _, rfl, ⟨by simp⟩⟩
    case round =>
      obtain ⟨k, hk, rfl, hA⟩ := hrel
      by_cases hlt : k < l.length
      · obtain ⟨ad, rfl, hcell⟩ := Kd.at_int (HC1 (.cells #[.int .i64 a, .int .i64 b, .slice A l.length c] 25)).out (k : Int) (by omega) (by omega)
        have HS := Aside0.mk (any_take_succ l (badAt b) k hlt)
        rw [Int.toNat_natCast] at hcell
        by_cases hg : inB (rd l k) 0 9 = true
        · by_cases hb : b = 0
          · have hbb : (b == 0) = true := by simp [hb]
            have HB := Aside0.mk hb
            clear hb
            by_cases hv : rd l k = 0
            · have hvb : (rd l k != 0) = false := by simp [hv]
              have HV := Aside0.mk hv
              clear hv
              go_wp2_with (go_at_call 62; refine (l6In_calls _ _ _ _).mono ?_; rintro e w' ⟨rfl, rfl⟩)
              go_round
              case rel => exact ⟨k + 1, by omega, by go_num, ⟨by rw [HS.out, hA.out]; simp [badAt, HB.out, HV.out, inB]⟩⟩
              case measure => simp [intOf]; omega
            · have hvb : (rd l k != 0) = true := by simp [hv]
              have HV := Aside0.mk hv
              clear hv
              go_wp2_with (go_at_call 62; refine (l6In_calls _ _ _ _).mono ?_; rintro e w' ⟨rfl, rfl⟩)
              go_ret
              exact ⟨by rw [pageOkB_at, any_at hlt (by simp [badAt, HB.out, HV.out])]; simp, bl0 _⟩
          · have hbb : (b == 0) = false := by simp [hb]
            have HB := Aside0.mk hb
            clear hb
            go_wp2_with (go_at_call 62; refine (l6In_calls _ _ _ _).mono ?_; rintro e w' ⟨rfl, rfl⟩)
            go_round
            case rel => exact ⟨k + 1, by omega, by go_num, ⟨by rw [HS.out, hA.out]; simp [badAt, hg, HB.out]⟩⟩
            case measure => simp [intOf]; omega
        · have hg2 : inB (rd l k) 0 9 = false := by simpa using hg
          clear hg
          go_wp2_with (go_at_call 62; refine (l6In_calls _ _ _ _).mono ?_; rintro e w' ⟨rfl, rfl⟩)
          go_ret
          exact ⟨by rw [pageOkB_at, any_at hlt (by simp [badAt, hg2])]; simp, bl0 _⟩
      · have HK := Aside0.mk (show k = l.length by omega)
        go_wp2
        go_ret
        refine ⟨?_, bl0 _⟩
        have h4 := hA.out
        rw [HK.out, List.take_length] at h4
        rw [pageOkB_at, h4, h1, h2, H3.out]
        rfl
  · have HN := Aside0.mk (show pageOkB a b l = false by
      rw [pageOkB_at]
      simp only [Bool.and_eq_false_iff, beq_eq_false_iff_ne]
      by_cases h1 : inB a 0 150 = true
      · by_cases h2 : inB b 0 3 = true
        · exact .inl (.inr (fun h3 => h ⟨h1, h2, h3⟩))
        · exact .inl (.inl (.inr (by simpa using h2)))
      · exact .inl (.inl (.inl (by simpa using h1))))
    have hd : (inB a 0 150 = false) ∨ (inB a 0 150 = true ∧ inB b 0 3 = false) ∨ (inB a 0 150 = true ∧ inB b 0 3 = true ∧ ((l.length : Int) != 3) = true) := by
      by_cases h1 : inB a 0 150 = true
      · by_cases h2 : inB b 0 3 = true
        · exact .inr (.inr ⟨h1, h2, by simp; intro h3; exact h ⟨h1, h2, by omega⟩⟩)
        · exact .inr (.inl ⟨h1, by simpa using h2⟩)
      · exact .inl (by simpa using h1)
    clear h
    rcases hd with h1 | ⟨h1, h2⟩ | ⟨h1, h2, h3⟩
    all_goals
      go_enter Tryd.func36, Tryd.ntmps36
      go_wp2_with (go_at_call 62; refine (l6In_calls _ _ _ _).mono ?_; rintro e w' ⟨rfl, rfl⟩)
      go_ret
      exact ⟨by rw [HN.out]; rfl, bl0 _⟩

theorem szPage_calls (a b : Int) (A : Option Addr) (c : Nat) (l : List Int) (n : Int) (w : World) (hC : CI w A l) (hc : l.length ≤ c) (h0 : -1 ≤ n) (h1 : n ≤ 9223372036854775807) :
    Calls Tryd.prog 15 #[.agg #[.int .i64 a, .int .i64 b, .slice A l.length c], .int .i64 n] w fun e w' => e = .returned (.int .i64 (szB l.length n)) ∧ Below w.heap.size w w' := by
  have HC := Aside0.mk hC
  clear hC
  go_enter Tryd.func15, Tryd.ntmps15
  go_wp2_with fail
  refine (szIntS_calls A c l n _ (CI_below HC.out (bl0 _)) hc h0 h1).mono ?_
  rintro e w1 ⟨rfl, hb1⟩
  have HB1 := Aside0.mk (below_then (bl0 _) (by simp) hb1)
  clear hb1
  by_cases h : n - (l.length : Int) < 0
  · have e1 : szB l.length n = -1 := by unfold szB; rw [if_pos h]
    rw [e1]
    clear h
    go_wp2_with fail
    go_ret
    exact ⟨by rw [e1]; rfl, HB1.out⟩
  · have e1 : szB l.length n = n - l.length := by unfold szB; rw [if_neg h]
    have E1 := Aside0.mk e1
    rw [e1]
    clear e1
    have h2 : 0 ≤ n - (l.length : Int) := by omega
    clear h
    go_wp2_with fail
    go_ret
    exact ⟨by rw [E1.out]; rfl, HB1.out⟩
theorem toPage_calls (a b : Int) (A : Option Addr) (c : Nat) (l : List Int) (w : World) (hC : CI w A l) (hc : l.length ≤ c) (hl : l.length ≤ 35184372088832) :
    Calls Tryd.prog 16 #[.agg #[.int .i64 a, .int .i64 b, .slice A l.length c]] w fun e w' => ∃ v : Value, e = .returned (.agg #[.int .i64 a, .int .i64 b, v]) ∧ NewI w' w.heap.size v l ∧ Below w.heap.size w w' := by
  have HC := Aside0.mk hC
  clear hC
  go_enter Tryd.func16, Tryd.ntmps16
  go_wp2_with fail
  refine (toIntS_calls A c l _ (CI_below HC.out (bl3 _ _ _)) hc hl).mono ?_
  rintro e w1 ⟨v, rfl, hn, hb1⟩
  obtain ⟨A1, c1, rfl, hc1, hC1⟩ := NewI_reads hn
  obtain ⟨hcc, hff⟩ := bcell hb1
  have HN := Aside0.mk hn
  have HC1 := Aside0.mk hC1
  have HZ := Aside0.mk (show w.heap.size + 3 ≤ w1.heap.size by have := hb1.size; simp at this; omega)
  have HB1 := Aside0.mk (below_then (bl3 _ _ _) (by simp; omega) hb1)
  clear hn hC1 hb1
  go_wp2
  have hz := HZ.out
  refine bodyPost_ret (v := .agg #[.int .i64 a, .int .i64 b, .slice A1 l.length c1]) (by simp [results, Tryd.results16, go_sem, hcc]) rfl ⟨_, rfl, ?_, ?_⟩
  · exact NewI_lower (NewI_old (NewI_old (NewI_old (NewI_old HN.out (by simp) _) (by simp) _) (by simp) _) (by simp) _) (by simp; omega)
  · exact below_set (below_set (below_set (below_set HB1.out (by omega)) (by omega)) (by omega)) (by omega)

theorem eqPage_calls (a b : Int) (A : Option Addr) (c : Nat) (l : List Int) (a1 b1 : Int) (A1 : Option Addr) (c1 : Nat) (l1 : List Int) (w : World) (hC : CI w A l) (hc : l.length ≤ c) (hC1 : CI w A1 l1) (hc1 : l1.length ≤ c1) :
    Calls Tryd.prog 17 #[.agg #[.int .i64 a, .int .i64 b, .slice A l.length c], .agg #[.int .i64 a1, .int .i64 b1, .slice A1 l1.length c1]] w fun e w' => e = .returned (.bool (decide (a = a1 ∧ b = b1 ∧ l = l1))) ∧ Below w.heap.size w w' := by
  have HC := Aside0.mk hC
  have HC1 := Aside0.mk hC1
  clear hC hC1
  by_cases ha : a = a1
  · subst ha
    by_cases hb : b = b1
    · subst hb
      go_enter Tryd.func17, Tryd.ntmps17
      go_wp2_with fail
      refine (eqIntS_calls A c l A1 c1 l1 _ (CI_below HC.out (bl2 _ _)) hc (CI_below HC1.out (bl2 _ _)) hc1).mono ?_
      rintro e w1 ⟨rfl, hb1⟩
      have HB1 := Aside0.mk (below_then (bl2 _ _) (by simp; omega) hb1)
      clear hb1
      by_cases hl : l = l1
      · have e1 : decide (l = l1) = true := by simp [hl]
        have HL := Aside0.mk hl
        clear hl
        go_wp2_with fail
        go_ret
        exact ⟨by simp [HL.out], HB1.out⟩
      · have e1 : decide (l = l1) = false := by simp [hl]
        have HL := Aside0.mk hl
        clear hl
        go_wp2_with fail
        go_ret
        exact ⟨by simp [HL.out], HB1.out⟩
    · have hn : (b != b1) = true := by simp [hb]
      have HN := Aside0.mk hb
      clear hb
      go_enter Tryd.func17, Tryd.ntmps17
      go_wp2
      go_ret
      exact ⟨by simp [HN.out], bl2 _ _⟩
  · have hn : (a != a1) = true := by simp [ha]
    have HN := Aside0.mk ha
    clear ha
    go_enter Tryd.func17, Tryd.ntmps17
    go_wp2
    go_ret
    exact ⟨by simp [HN.out], bl2 _ _⟩
end Go.Proofs.YtajdjoggflagdaaDoor.T
