/- Contracts of the functions that look at one record: what they return, and that nothing that was there is changed. -/
import Derived.Test.YtajdjoggflagdaaDoorIntS
namespace Go.Proofs.YtajdjoggflagdaaDoor.T
open Go.RowKit Go.Proofs.YtajdjoggflagdaaDoorW.PrintWords
set_option linter.unusedSimpArgs false
set_option linter.unusedVariables false

/-- Is a record valid? -/
def recOkB (k tx p s o n pv nx : Int) : Bool :=
  (if k = 1 then inB p 0 4 && inB s 0 2 && inB o 0 9 && inB n 0 9 && nx == 0
   else if k = 2 then inB p 0 4 && s == -1 && inB o 0 3 && inB n 0 3 && nx == 0
   else if k = 3 then inB p 0 4 && s == 0 && o == 0 && n == 0 && nx == 0
   else if k = 4 ∨ k = 5 then p == 0 && s == 0 && o == 0 && n == 0 && nx == 0
   else if k = 6 then inB p 0 4 && inB s (-1) 2 && o == 0 && inB n 0 (if s = -1 then 3 else 9) && inB nx 0 150
   else false) && inB tx 1 3 && inB pv 0 150

theorem in_calls (n lo hi : Int) (w : World) :
    Calls Tryd.prog 51 #[.int .i64 n, .int .i64 lo, .int .i64 hi] w fun e w' => e = .returned (.bool (inB n lo hi)) ∧ w = w' := by
  by_cases h : lo ≤ n
  · go_enter Tryd.func51, Tryd.ntmps51
    go_wp2
    go_ret
    exact ⟨by simp [inB, h], rfl⟩
  · have h' : n < lo := by omega
    go_enter Tryd.func51, Tryd.ntmps51
    go_wp2
    go_ret
    exact ⟨by simp [inB]; omega, rfl⟩
theorem l6In_calls (n lo hi : Int) (w : World) :
    Calls Tryd.prog 62 #[.int .i64 n, .int .i64 lo, .int .i64 hi] w fun e w' => e = .returned (.bool (inB n lo hi)) ∧ w = w' := by
  by_cases h : lo ≤ n
  · go_enter Tryd.func62, Tryd.ntmps62
    go_wp2
    go_ret
    exact ⟨by simp [inB, h], rfl⟩
  · have h' : n < lo := by omega
    go_enter Tryd.func62, Tryd.ntmps62
    go_wp2
    go_ret
    exact ⟨by simp [inB]; omega, rfl⟩
theorem isPage_calls (n : Int) (w : World) :
    Calls Tryd.prog 52 #[.int .i64 n] w fun e w' => e = .returned (.bool (inB n 0 4)) ∧ w = w' := by
  go_enter Tryd.func52, Tryd.ntmps52
  go_wp2_with (go_at_call 51; refine (in_calls _ _ _ _).mono ?_; rintro e w' ⟨rfl, rfl⟩)
  go_ret
  exact ⟨rfl, rfl⟩
theorem isTx_calls (n : Int) (w : World) :
    Calls Tryd.prog 53 #[.int .i64 n] w fun e w' => e = .returned (.bool (inB n 1 3)) ∧ w = w' := by
  go_enter Tryd.func53, Tryd.ntmps53
  go_wp2_with (go_at_call 51; refine (in_calls _ _ _ _).mono ?_; rintro e w' ⟨rfl, rfl⟩)
  go_ret
  exact ⟨rfl, rfl⟩



set_option maxHeartbeats 4000000 in
set_option maxRecDepth 100000 in
theorem implRecOk_calls (k tx p s o n pv nx : Int) (w : World) :
    Calls Tryd.prog 26 #[.agg #[.int .i64 k, .int .i64 tx, .int .i64 p, .int .i64 s, .int .i64 o, .int .i64 n, .int .i64 pv, .int .i64 nx]] w fun e w' => e = .returned (.bool (recOkB k tx p s o n pv nx)) ∧ Below w.heap.size w w' := by
  go_enter Tryd.func26, Tryd.ntmps26
  go_wp2
  all_goals go_quiet ((go_at_call 51; exact Calls.quiet_of_same ((in_calls _ _ _ _).mono (fun _ _ h => ⟨h.1, h.2.symm⟩))))
  all_goals go_wp2_with (first | (go_at_call 51; refine (in_calls _ _ _ _).mono ?_; rintro e w' ⟨rfl, rfl⟩) | (go_at_call 52; refine (isPage_calls _ _).mono ?_; rintro e w' ⟨rfl, rfl⟩) | (go_at_call 53; refine (isTx_calls _ _).mono ?_; rintro e w' ⟨rfl, rfl⟩))
  all_goals go_ret
  all_goals refine ⟨congrArg (fun b => Ending.returned (.bool b)) ?_, bl1 _ _⟩
  all_goals first | (simp_all [recOkB]; done) | (simp_all [recOkB, inB]; done) | (simp_all [recOkB, inB]; omega)

/-- Is a record of a page such: of a slot, or of whose it is? -/
def l2OfB (p s o n : Int) : Bool := inB p 0 4 && inB s (-1) 2 && inB o 0 (if s < 0 then 3 else 9) && inB n 0 (if s < 0 then 3 else 9)
set_option maxHeartbeats 1000000 in
theorem l2Of_calls (k tx p s o n pv nx : Int) (w : World) :
    Calls Tryd.prog 63 #[.agg #[.int .i64 k, .int .i64 tx, .int .i64 p, .int .i64 s, .int .i64 o, .int .i64 n, .int .i64 pv, .int .i64 nx]] w fun e w' => e = .returned (.bool (l2OfB p s o n)) ∧ Below w.heap.size w w' := by
  by_cases hs : s < 0
  all_goals
    go_enter Tryd.func63, Tryd.ntmps63
    go_wp2_with (go_at_call 62; refine (l6In_calls _ _ _ _).mono ?_; rintro e w' ⟨rfl, rfl⟩)
    all_goals go_ret
    all_goals refine ⟨congrArg (fun b => Ending.returned (.bool b)) ?_, bl0 _⟩
    all_goals unfold l2OfB
    all_goals first | rw [if_pos hs] | rw [if_neg (show ¬ s < 0 by omega)]
    all_goals first | (simp_all; done) | (simp_all [inB]; done) | (simp_all [inB]; omega)
theorem recOkB_l2 (k tx p s o n pv nx : Int) : recOkB k tx p s o n pv nx = (inB tx 1 3 && inB pv 0 150 && inB nx 0 150 && (if k = 1 then l2OfB p s o n && decide (0 ≤ s) && nx == 0 else if k = 2 then l2OfB p s o n && decide (s < 0) && nx == 0
    else if k = 6 then l2OfB p s o n && o == 0 else if k = 3 then inB p 0 4 && s == 0 && o == 0 && n == 0 && nx == 0 else if k = 4 ∨ k = 5 then p == 0 && s == 0 && o == 0 && n == 0 && nx == 0 else false)) := by
  unfold recOkB l2OfB inB
  rw [Bool.eq_iff_iff]
  by_cases h1 : k = 1
  · subst h1
    by_cases hs : s < 0 <;> simp only [hs, if_true, if_false, Bool.and_eq_true, decide_eq_true_eq, beq_iff_eq] <;> omega
  · by_cases h2 : k = 2
    · subst h2
      by_cases hs : s < 0 <;> simp [hs] <;> omega
    · by_cases h6 : k = 6
      · subst h6
        by_cases hs : s < 0
        · by_cases hm : s = -1
          · subst hm
            simp <;> omega
          · simp [hs, hm] <;> omega
        · have hm : s ≠ -1 := by omega
          simp [hs, hm] <;> omega
      · by_cases h3 : k = 3
        · subst h3
          simp <;> omega
        · by_cases h45 : k = 4 ∨ k = 5 <;> simp [h1, h2, h6, h3, h45] <;> omega
set_option maxHeartbeats 4000000 in
set_option maxRecDepth 100000 in
theorem specRecOk_calls (k tx p s o n pv nx : Int) (w : World) :
    Calls Tryd.prog 43 #[.agg #[.int .i64 k, .int .i64 tx, .int .i64 p, .int .i64 s, .int .i64 o, .int .i64 n, .int .i64 pv, .int .i64 nx]] w fun e w' => e = .returned (.bool (recOkB k tx p s o n pv nx)) ∧ Below w.heap.size w w' := by
  go_enter Tryd.func43, Tryd.ntmps43
  go_wp2_with (first | (go_at_call 62; refine (l6In_calls _ _ _ _).mono ?_; rintro e w' ⟨rfl, rfl⟩) | (go_at_call 63; refine (l2Of_calls _ _ _ _ _ _ _ _ _).mono ?_; rintro e w1 ⟨rfl, hb⟩; obtain ⟨hc, hf⟩ := bcell hb))
  all_goals go_ret
  all_goals refine ⟨congrArg (fun b => Ending.returned (.bool b)) ?_, ?_⟩
  all_goals first | exact bl0 _ | exact (bl0 _).trans (Below.mono (by assumption) (by simp)) | skip
  all_goals rw [recOkB_l2]
  all_goals first | (simp_all; done) | (simp_all [inB]; done) | (simp_all [inB]; omega)
theorem toRec_calls (k tx p s o n pv nx : Int) (w : World) :
    Calls Tryd.prog 21 #[.agg #[.int .i64 k, .int .i64 tx, .int .i64 p, .int .i64 s, .int .i64 o, .int .i64 n, .int .i64 pv, .int .i64 nx]] w fun e w' => e = .returned (.agg #[.int .i64 k, .int .i64 tx, .int .i64 p, .int .i64 s, .int .i64 o, .int .i64 n, .int .i64 pv, .int .i64 nx]) ∧ Below w.heap.size w w' := by
  go_enter Tryd.func21, Tryd.ntmps21
  go_wp2
  exact bodyPost_ret (v := .agg #[.int .i64 k, .int .i64 tx, .int .i64 p, .int .i64 s, .int .i64 o, .int .i64 n, .int .i64 pv, .int .i64 nx]) (by simp [results, Tryd.results21, go_sem]) rfl ⟨rfl, bl3 _ _ _⟩
end Go.Proofs.YtajdjoggflagdaaDoor.T
