import Derived.Test.YtcefiblpnegepaaQPrM
import Derived.Test.YtcefiblpnegepaaQRd
namespace Go.Proofs.Ytcefiblpnegepaa.T
open Go.RowKit Go.Proofs.YtcefiblpnegepaaW.PrintWords
set_option linter.unusedSimpArgs false
set_option linter.unusedVariables false
def recOkB (k tx p s o n pv nx : Int) : Bool :=
  (if k = 1 then inB p 0 4 && inB s 0 2 && inB o 0 9 && inB n 0 9 && nx == 0
   else if k = 2 then inB p 0 4 && s == -1 && inB o 0 3 && inB n 0 3 && nx == 0
   else if k = 3 then inB p 0 4 && s == 0 && o == 0 && n == 0 && nx == 0
   else if k = 4 ∨ k = 5 then p == 0 && s == 0 && o == 0 && n == 0 && nx == 0
   else if k = 6 then inB p 0 4 && inB s (-1) 2 && o == 0 && inB n 0 (if s = -1 then 3 else 9) && inB nx 0 150
   else false) && inB tx 1 3 && inB pv 0 150
theorem in_calls (n lo hi : Int) (w : World) :
    Calls Try.prog 78 #[.int .i64 n, .int .i64 lo, .int .i64 hi] w fun e w' => e = .returned (.bool (inB n lo hi)) ∧ w = w' := by
  by_cases h : lo ≤ n
  · go_enter Try.func78, Try.ntmps78
    go_wp2
    go_ret
    exact ⟨by simp [inB, h], rfl⟩
  · have h' : n < lo := by omega
    go_enter Try.func78, Try.ntmps78
    go_wp2
    go_ret
    exact ⟨by simp [inB]; omega, rfl⟩
theorem l6In_calls (n lo hi : Int) (w : World) :
    Calls Try.prog 81 #[.int .i64 n, .int .i64 lo, .int .i64 hi] w fun e w' => e = .returned (.bool (inB n lo hi)) ∧ w = w' := by
  by_cases h : lo ≤ n
  · go_enter Try.func81, Try.ntmps81
    go_wp2
    go_ret
    exact ⟨by simp [inB, h], rfl⟩
  · have h' : n < lo := by omega
    go_enter Try.func81, Try.ntmps81
    go_wp2
    go_ret
    exact ⟨by simp [inB]; omega, rfl⟩
theorem isPage_calls (n : Int) (w : World) :
    Calls Try.prog 91 #[.int .i64 n] w fun e w' => e = .returned (.bool (inB n 0 4)) ∧ w = w' := by
  go_enter Try.func91, Try.ntmps91
  go_wp2_with (go_at_call 78; refine (in_calls _ _ _ _).mono ?_; rintro e w' ⟨rfl, rfl⟩)
  go_ret
  exact ⟨rfl, rfl⟩
theorem isTx_calls (n : Int) (w : World) :
    Calls Try.prog 92 #[.int .i64 n] w fun e w' => e = .returned (.bool (inB n 1 3)) ∧ w = w' := by
  go_enter Try.func92, Try.ntmps92
  go_wp2_with (go_at_call 78; refine (in_calls _ _ _ _).mono ?_; rintro e w' ⟨rfl, rfl⟩)
  go_ret
  exact ⟨rfl, rfl⟩
set_option maxHeartbeats 4000000 in
set_option maxRecDepth 100000 in
theorem implRecOk_calls (k tx p s o n pv nx : Int) (w : World) :
    Calls Try.prog 41 #[.agg #[.int .i64 k, .int .i64 tx, .int .i64 p, .int .i64 s, .int .i64 o, .int .i64 n, .int .i64 pv, .int .i64 nx]] w fun e w' => e = .returned (.bool (recOkB k tx p s o n pv nx)) ∧ Below w.heap.size w w' := by
  go_enter Try.func41, Try.ntmps41
  go_wp2
  all_goals go_quiet ((go_at_call 78; exact Calls.quiet_of_same ((in_calls _ _ _ _).mono (fun _ _ h => ⟨h.1, h.2.symm⟩))))
  all_goals go_wp2_with (first | (go_at_call 78; refine (in_calls _ _ _ _).mono ?_; rintro e w' ⟨rfl, rfl⟩) | (go_at_call 91; refine (isPage_calls _ _).mono ?_; rintro e w' ⟨rfl, rfl⟩) | (go_at_call 92; refine (isTx_calls _ _).mono ?_; rintro e w' ⟨rfl, rfl⟩))
  all_goals go_ret
  all_goals refine ⟨congrArg (fun b => Ending.returned (.bool b)) ?_, bl1 _ _⟩
  all_goals first | (simp_all [recOkB]; done) | (simp_all [recOkB, inB]; done) | (simp_all [recOkB, inB]; omega)
def l2OfB (p s o n : Int) : Bool := inB p 0 4 && inB s (-1) 2 && inB o 0 (if s < 0 then 3 else 9) && inB n 0 (if s < 0 then 3 else 9)
set_option maxHeartbeats 1000000 in
theorem l2Of_calls (k tx p s o n pv nx : Int) (w : World) :
    Calls Try.prog 115 #[.agg #[.int .i64 k, .int .i64 tx, .int .i64 p, .int .i64 s, .int .i64 o, .int .i64 n, .int .i64 pv, .int .i64 nx]] w fun e w' => e = .returned (.bool (l2OfB p s o n)) ∧ Below w.heap.size w w' := by
  by_cases hs : s < 0
  all_goals
    go_enter Try.func115, Try.ntmps115
    go_wp2_with (go_at_call 81; refine (l6In_calls _ _ _ _).mono ?_; rintro e w' ⟨rfl, rfl⟩)
    all_goals go_ret
    all_goals refine ⟨congrArg (fun b => Ending.returned (.bool b)) ?_, bl0 _⟩
    all_goals unfold l2OfB
    all_goals first | rw [if_pos hs] | rw [if_neg (show ¬ s < 0 by omega)]
    all_goals first | (simp_all; done) | (simp_all [inB]; done) | (simp_all [inB]; omega)
theorem recOkB_l2 (k tx p s o n pv nx : Int) : recOkB k tx p s o n pv nx = (inB tx 1 3 && inB pv 0 150 && inB nx 0 150 && (if k = 1 then l2OfB p s o n && decide (0 ≤ s) && nx == 0 else if k = 2 then l2OfB p s o n && decide (s < 0) && nx == 0
    else if k = 6 then l2OfB p s o n && o == 0 else if k = 3 then inB p 0 4 && s == 0 && o == 0 && n == 0 && nx == 0 else if k = 4 ∨ k = 5 then p == 0 && s == 0 && o == 0 && n == 0 && nx == 0 else false)) := by
  unfold recOkB l2OfB inB
  rw [Bool.eq_iff_iff]
  by_cases h1 : k = 1
  · subst h1
    by_cases hs : s < 0 <;> simp only [hs, if_true, if_false, Bool.and_eq_true, decide_eq_true_eq, beq_iff_eq] <;> omega
  · by_cases h2 : k = 2
    · subst h2
      by_cases hs : s < 0 <;> simp [hs] <;> omega
    · by_cases h6 : k = 6
      · subst h6
        by_cases hs : s < 0
        · by_cases hm : s = -1
          · subst hm
            simp <;> omega
          · simp [hs, hm] <;> omega
        · have hm : s ≠ -1 := by omega
          simp [hs, hm] <;> omega
      · by_cases h3 : k = 3
        · subst h3
          simp <;> omega
        · by_cases h45 : k = 4 ∨ k = 5 <;> simp [h1, h2, h6, h3, h45] <;> omega
set_option maxHeartbeats 4000000 in
set_option maxRecDepth 100000 in
theorem specRecOk_calls (k tx p s o n pv nx : Int) (w : World) :
    Calls Try.prog 83 #[.agg #[.int .i64 k, .int .i64 tx, .int .i64 p, .int .i64 s, .int .i64 o, .int .i64 n, .int .i64 pv, .int .i64 nx]] w fun e w' => e = .returned (.bool (recOkB k tx p s o n pv nx)) ∧ Below w.heap.size w w' := by
  go_enter Try.func83, Try.ntmps83
  go_wp2_with (first | (go_at_call 81; refine (l6In_calls _ _ _ _).mono ?_; rintro e w' ⟨rfl, rfl⟩) | (go_at_call 115; refine (l2Of_calls _ _ _ _ _ _ _ _ _).mono ?_; rintro e w1 ⟨rfl, hb⟩; obtain ⟨hc, hf⟩ := bcell hb))
  all_goals go_ret
  all_goals refine ⟨congrArg (fun b => Ending.returned (.bool b)) ?_, ?_⟩
  all_goals first | exact bl0 _ | exact (bl0 _).trans (Below.mono (by assumption) (by simp)) | skip
  all_goals rw [recOkB_l2]
  all_goals first | (simp_all; done) | (simp_all [inB]; done) | (simp_all [inB]; omega)
end Go.Proofs.Ytcefiblpnegepaa.T
namespace Go.Proofs.Ytcefiblpnegepaa.Pr
open Go.RowKit Go.Proofs.YtcefiblpnegepaaW.PrintWords Go.Proofs.Ytcefiblpnegepaa.T
set_option linter.unusedSimpArgs false
set_option linter.unusedVariables false
theorem leo_le {α : Type} {g : Nat → Option α} (m : ∀ k, LeO (g k) (g (k + 1))) {k : Nat} {r : α} (h : g k = some r) : ∀ d, g (k + d) = some r
  | 0 => h
  | d + 1 => m (k + d) r (leo_le m h d)
theorem leo_uniq {α : Type} {g : Nat → Option α} (m : ∀ k, LeO (g k) (g (k + 1))) {k k' : Nat} {r r' : α} (h : g k = some r) (h' : g k' = some r') : r = r' := by
  have e1 := leo_le m h k'; have e2 := leo_le m h' k; rw [Nat.add_comm] at e2; rw [e1] at e2; exact Option.some.inj e2
theorem l6In_f (n lo hi : Int) : spec_l6In.f n lo hi = some (inB n lo hi) := by
  unfold spec_l6In.f inB
  by_cases h : lo ≤ n
  · rw [if_pos h]
    simp [h]
  · rw [if_neg h]
    simp [h]
theorem l2Of_k (k tx p s o n pv nx : Int) (j : Nat) : spec_l2Of.f (j + 1) k tx p s o n pv nx = some (l2OfB p s o n) := by
  unfold spec_l2Of.f l2OfB
  simp only [l6In_f, Option.bind_some, spec_l2Of.j0]
  cases h1 : inB p 0 4 <;> cases h2 : inB s (-1) 2 <;> simp
  by_cases hs : s < 0
  · simp only [hs, if_true]
    cases inB o 0 3 <;> simp
  · simp only [hs, if_false]
    cases inB o 0 9 <;> simp
theorem spec_RecOk_k (k tx p s o n pv nx : Int) (j : Nat) : spec_RecOk.f (j + 2) k tx p s o n pv nx = some (recOkB k tx p s o n pv nx) := by
  unfold spec_RecOk.f
  rw [recOkB_l2]; simp only [l6In_f, Option.bind_some, spec_RecOk.j0, l2Of_k]
  cases h1 : inB tx 1 3 <;> cases h2 : inB pv 0 150 <;> cases h3 : inB nx 0 150 <;> simp
  repeat' split
  all_goals try simp_all
  all_goals (try (intros; omega))
theorem spec_RecOk.calls (k : Nat) (a0_0 : Int) (a0_1 : Int) (a0_2 : Int) (a0_3 : Int) (a0_4 : Int) (a0_5 : Int) (a0_6 : Int) (a0_7 : Int) (r : Bool) (w : World) (h : spec_RecOk.f k a0_0 a0_1 a0_2 a0_3 a0_4 a0_5 a0_6 a0_7 = some r) :
    Calls Try.prog 83 #[.agg #[.int .i64 a0_0, .int .i64 a0_1, .int .i64 a0_2, .int .i64 a0_3, .int .i64 a0_4, .int .i64 a0_5, .int .i64 a0_6, .int .i64 a0_7]] w fun e w' => e = .returned (.bool r) ∧ Below w.heap.size w w' := by
  obtain rfl : r = recOkB a0_0 a0_1 a0_2 a0_3 a0_4 a0_5 a0_6 a0_7 := leo_uniq (spec_RecOk.mono _ _ _ _ _ _ _ _) h (spec_RecOk_k _ _ _ _ _ _ _ _ 0); exact specRecOk_calls _ _ _ _ _ _ _ _ _
end Go.Proofs.Ytcefiblpnegepaa.Pr
