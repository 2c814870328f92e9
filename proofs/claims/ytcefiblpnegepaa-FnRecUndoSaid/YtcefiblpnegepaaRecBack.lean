/- Contracts of RecBack, the program's and the reference's. -/
import Derived.Test.YtcefiblpnegepaaRec
namespace Go.Proofs.Ytcefiblpnegepaa.T
open Go.RowKit Go.Proofs.YtcefiblpnegepaaW.PrintWords
set_option linter.unusedSimpArgs false
set_option linter.unusedVariables false

/-- Can a record be undone? -/
def backB (k tx p s o n pv nx prev : Int) : Bool := recOkB k tx p s o n pv nx && (k == 1 || k == 2) && inB prev 0 150
theorem l2Back_calls (k tx p s o n pv nx prev : Int) (w : World) :
    Calls Try.prog 89 #[.agg #[.int .i64 k, .int .i64 tx, .int .i64 p, .int .i64 s, .int .i64 o, .int .i64 n, .int .i64 pv, .int .i64 nx], .int .i64 prev] w fun e w' => e = .returned (.agg #[.int .i64 6, .int .i64 tx, .int .i64 p, .int .i64 s, .int .i64 0, .int .i64 o, .int .i64 prev, .int .i64 pv]) ∧ Below w.heap.size w w' := by
  go_enter Try.func89, Try.ntmps89
  go_wp2
  exact bodyPost_ret (v := .agg #[.int .i64 6, .int .i64 tx, .int .i64 p, .int .i64 s, .int .i64 0, .int .i64 o, .int .i64 prev, .int .i64 pv]) (by simp [results, Try.results89, go_sem]) rfl ⟨rfl, bl2 _ _⟩
theorem back_calls (k tx p s o n pv nx prev : Int) (w : World) :
    Calls Try.prog 90 #[.agg #[.int .i64 k, .int .i64 tx, .int .i64 p, .int .i64 s, .int .i64 o, .int .i64 n, .int .i64 pv, .int .i64 nx], .int .i64 prev] w fun e w' => e = .returned (.agg #[.int .i64 6, .int .i64 tx, .int .i64 p, .int .i64 s, .int .i64 0, .int .i64 o, .int .i64 prev, .int .i64 pv]) ∧ Below w.heap.size w w' := by
  go_enter Try.func90, Try.ntmps90
  go_wp2
  exact bodyPost_ret (v := .agg #[.int .i64 6, .int .i64 tx, .int .i64 p, .int .i64 s, .int .i64 0, .int .i64 o, .int .i64 prev, .int .i64 pv]) (by simp [results, Try.results90, go_sem]) rfl ⟨rfl, bl2 _ _⟩
set_option maxHeartbeats 2000000 in
set_option maxRecDepth 100000 in
theorem specRecBack_yes (k tx p s o n pv nx prev : Int) (w : World) (hk : backB k tx p s o n pv nx prev = true) :
    Calls Try.prog 39 #[.agg #[.int .i64 k, .int .i64 tx, .int .i64 p, .int .i64 s, .int .i64 o, .int .i64 n, .int .i64 pv, .int .i64 nx], .int .i64 prev] w fun e w' => e = .returned (.tuple #[.agg #[.int .i64 6, .int .i64 tx, .int .i64 p, .int .i64 s, .int .i64 0, .int .i64 o, .int .i64 prev, .int .i64 pv], .bool true]) ∧ Below w.heap.size w w' := by
  have hr : recOkB k tx p s o n pv nx = true := by unfold backB at hk; simp only [Bool.and_eq_true] at hk; exact hk.1.1
  have hp : inB prev 0 150 = true := by unfold backB at hk; simp only [Bool.and_eq_true] at hk; exact hk.2
  have h12 : k = 1 ∨ k = 2 := by unfold backB at hk; simp only [Bool.and_eq_true, Bool.or_eq_true, beq_iff_eq] at hk; exact hk.1.2
  have HKK := Aside0.mk hk
  clear hk
  have h12b : (k != 1) = false ∨ (k != 1) = true ∧ (k != 2) = false := by
    rcases h12 with rfl | rfl
    · exact .inl rfl
    · exact .inr ⟨rfl, rfl⟩
  clear h12
  rcases h12b with h1 | ⟨h1, h2⟩
  all_goals
    go_enter Try.func39, Try.ntmps39
    go_wp2_with fail
    refine (specRecOk_calls _ _ _ _ _ _ _ _ _).mono ?_
    rintro e w1 ⟨rfl, hb⟩
    obtain ⟨hc1, hf1⟩ := bcell hb
    have hz1 := hb.size
    simp at hz1
    have hy1 : w.heap.size < w1.heap.size := by omega
    have hy2 : w.heap.size + 1 < w1.heap.size := by omega
    have HB1 : Aside0 (Below w.heap.size w w1) := ⟨below_then (bl2 _ _) (by simp; omega) hb⟩
    clear hb
    go_wp2_with (go_at_call 81; refine (l6In_calls _ _ _ _).mono ?_; rintro e w' ⟨rfl, rfl⟩)
    refine (l2Back_calls _ _ _ _ _ _ _ _ _ _).mono ?_
    rintro e w2 ⟨rfl, hb⟩
    obtain ⟨hc2, hf2⟩ := bcell hb
    have hz2 := hb.size
    have hy3 : w.heap.size + 1 < w2.heap.size := by omega
    have HB2 : Aside0 (Below w.heap.size w w2) := ⟨below_then HB1.out (by omega) hb⟩
    clear hb
    go_wp2_with fail
    have q0 : w2.cell? ⟨w.heap.size + 1, 0, none⟩ = some (.int .i64 0) := by go_simp
    have q1 : w2.cell? ⟨w.heap.size + 1, 1, none⟩ = some (.int .i64 0) := by go_simp
    have q2 : w2.cell? ⟨w.heap.size + 1, 2, none⟩ = some (.int .i64 0) := by go_simp
    have q3 : w2.cell? ⟨w.heap.size + 1, 3, none⟩ = some (.int .i64 0) := by go_simp
    have q4 : w2.cell? ⟨w.heap.size + 1, 4, none⟩ = some (.int .i64 0) := by go_simp
    have q5 : w2.cell? ⟨w.heap.size + 1, 5, none⟩ = some (.int .i64 0) := by go_simp
    have q6 : w2.cell? ⟨w.heap.size + 1, 6, none⟩ = some (.int .i64 0) := by go_simp
    have q7 : w2.cell? ⟨w.heap.size + 1, 7, none⟩ = some (.int .i64 0) := by go_simp
    refine bodyPost_ret (v := .tuple #[.agg #[.int .i64 6, .int .i64 tx, .int .i64 p, .int .i64 s, .int .i64 0, .int .i64 o, .int .i64 prev, .int .i64 pv], .bool true]) (by simp [results, Try.results39, go_sem, q0, q1, q2, q3, q4, q5, q6, q7]) rfl ⟨rfl, ?_⟩
    repeat (first | (with_reducible exact HB2.out) | refine below_set ?_ (by omega))
set_option maxHeartbeats 2000000 in
set_option maxRecDepth 100000 in
theorem specRecBack_no (k tx p s o n pv nx prev : Int) (w : World) (hk : ¬ backB k tx p s o n pv nx prev = true) :
    Calls Try.prog 39 #[.agg #[.int .i64 k, .int .i64 tx, .int .i64 p, .int .i64 s, .int .i64 o, .int .i64 n, .int .i64 pv, .int .i64 nx], .int .i64 prev] w fun e w' => e = .returned (.tuple #[.agg #[.int .i64 0, .int .i64 0, .int .i64 0, .int .i64 0, .int .i64 0, .int .i64 0, .int .i64 0, .int .i64 0], .bool false]) ∧ Below w.heap.size w w' := by
  have HKK := Aside0.mk hk
  have hd : recOkB k tx p s o n pv nx = false ∨ (recOkB k tx p s o n pv nx = true ∧ (k != 1) = true ∧ (k != 2) = true) ∨ (recOkB k tx p s o n pv nx = true ∧ (k != 1) = false ∧ inB prev 0 150 = false) ∨ (recOkB k tx p s o n pv nx = true ∧ (k != 1) = true ∧ (k != 2) = false ∧ inB prev 0 150 = false) := by
    unfold backB at hk
    by_cases hr0 : recOkB k tx p s o n pv nx = true
    · have hno : (k == 1 || k == 2) = true → inB prev 0 150 = false := fun h => by
        cases hp : inB prev 0 150 with
        | false => rfl
        | true => exact absurd (by rw [hr0, h, hp]; rfl) hk
      by_cases h1 : k = 1
      · exact .inr (.inr (.inl ⟨hr0, by simp [h1], hno (by simp [h1])⟩))
      · by_cases h2 : k = 2
        · exact .inr (.inr (.inr ⟨hr0, by simp [h1], by simp [h2], hno (by simp [h2])⟩))
        · exact .inr (.inl ⟨hr0, by simp [h1], by simp [h2]⟩)
    · exact .inl (by simpa using hr0)
  clear hk
  rcases hd with hr | ⟨hr, h1, h2⟩ | ⟨hr, h1, hp⟩ | ⟨hr, h1, h2, hp⟩
  all_goals
    go_enter Try.func39, Try.ntmps39
    go_wp2_with fail
    refine (specRecOk_calls _ _ _ _ _ _ _ _ _).mono ?_
    rintro e w1 ⟨rfl, hb⟩
    obtain ⟨hc1, hf1⟩ := bcell hb
    have hz1 := hb.size
    simp at hz1
    have hy1 : w.heap.size < w1.heap.size := by omega
    have hy2 : w.heap.size + 1 < w1.heap.size := by omega
    have HB1 : Aside0 (Below w.heap.size w w1) := ⟨below_then (bl2 _ _) (by simp; omega) hb⟩
    clear hb
    go_wp2_with (go_at_call 81; refine (l6In_calls _ _ _ _).mono ?_; rintro e w' ⟨rfl, rfl⟩)
    have q0 : w1.cell? ⟨w.heap.size + 1, 0, none⟩ = some (.int .i64 0) := by go_simp
    have q1 : w1.cell? ⟨w.heap.size + 1, 1, none⟩ = some (.int .i64 0) := by go_simp
    have q2 : w1.cell? ⟨w.heap.size + 1, 2, none⟩ = some (.int .i64 0) := by go_simp
    have q3 : w1.cell? ⟨w.heap.size + 1, 3, none⟩ = some (.int .i64 0) := by go_simp
    have q4 : w1.cell? ⟨w.heap.size + 1, 4, none⟩ = some (.int .i64 0) := by go_simp
    have q5 : w1.cell? ⟨w.heap.size + 1, 5, none⟩ = some (.int .i64 0) := by go_simp
    have q6 : w1.cell? ⟨w.heap.size + 1, 6, none⟩ = some (.int .i64 0) := by go_simp
    have q7 : w1.cell? ⟨w.heap.size + 1, 7, none⟩ = some (.int .i64 0) := by go_simp
    refine bodyPost_ret (v := .tuple #[.agg #[.int .i64 0, .int .i64 0, .int .i64 0, .int .i64 0, .int .i64 0, .int .i64 0, .int .i64 0, .int .i64 0], .bool false]) (by simp [results, Try.results39, go_sem, q0, q1, q2, q3, q4, q5, q6, q7]) rfl ⟨rfl, ?_⟩
    repeat (first | (with_reducible exact HB1.out) | refine below_set ?_ (by omega))
set_option maxHeartbeats 2000000 in
set_option maxRecDepth 100000 in
theorem implRecBack_yes (k tx p s o n pv nx prev : Int) (w : World) (hk : backB k tx p s o n pv nx prev = true) :
    Calls Try.prog 40 #[.agg #[.int .i64 k, .int .i64 tx, .int .i64 p, .int .i64 s, .int .i64 o, .int .i64 n, .int .i64 pv, .int .i64 nx], .int .i64 prev] w fun e w' => e = .returned (.tuple #[.agg #[.int .i64 6, .int .i64 tx, .int .i64 p, .int .i64 s, .int .i64 0, .int .i64 o, .int .i64 prev, .int .i64 pv], .bool true]) ∧ Below w.heap.size w w' := by
  have hr : recOkB k tx p s o n pv nx = true := by unfold backB at hk; simp only [Bool.and_eq_true] at hk; exact hk.1.1
  have hp : inB prev 0 150 = true := by unfold backB at hk; simp only [Bool.and_eq_true] at hk; exact hk.2
  have h12 : k = 1 ∨ k = 2 := by unfold backB at hk; simp only [Bool.and_eq_true, Bool.or_eq_true, beq_iff_eq] at hk; exact hk.1.2
  have HKK := Aside0.mk hk
  clear hk
  have h12b : (k != 1) = false ∨ (k != 1) = true ∧ (k != 2) = false := by
    rcases h12 with rfl | rfl
    · exact .inl rfl
    · exact .inr ⟨rfl, rfl⟩
  clear h12
  rcases h12b with h1 | ⟨h1, h2⟩
  all_goals
    go_enter Try.func40, Try.ntmps40
    go_wp2_with fail
    refine (implRecOk_calls _ _ _ _ _ _ _ _ _).mono ?_
    rintro e w1 ⟨rfl, hb⟩
    obtain ⟨hc1, hf1⟩ := bcell hb
    have hz1 := hb.size
    simp at hz1
    have hy1 : w.heap.size < w1.heap.size := by omega
    have hy2 : w.heap.size + 1 < w1.heap.size := by omega
    have HB1 : Aside0 (Below w.heap.size w w1) := ⟨below_then (bl2 _ _) (by simp; omega) hb⟩
    clear hb
    go_wp2_with (go_at_call 78; refine (in_calls _ _ _ _).mono ?_; rintro e w' ⟨rfl, rfl⟩)
    refine (back_calls _ _ _ _ _ _ _ _ _ _).mono ?_
    rintro e w2 ⟨rfl, hb⟩
    obtain ⟨hc2, hf2⟩ := bcell hb
    have hz2 := hb.size
    have hy3 : w.heap.size + 1 < w2.heap.size := by omega
    have HB2 : Aside0 (Below w.heap.size w w2) := ⟨below_then HB1.out (by omega) hb⟩
    clear hb
    go_wp2_with fail
    have q0 : w2.cell? ⟨w.heap.size + 1, 0, none⟩ = some (.int .i64 0) := by go_simp
    have q1 : w2.cell? ⟨w.heap.size + 1, 1, none⟩ = some (.int .i64 0) := by go_simp
    have q2 : w2.cell? ⟨w.heap.size + 1, 2, none⟩ = some (.int .i64 0) := by go_simp
    have q3 : w2.cell? ⟨w.heap.size + 1, 3, none⟩ = some (.int .i64 0) := by go_simp
    have q4 : w2.cell? ⟨w.heap.size + 1, 4, none⟩ = some (.int .i64 0) := by go_simp
    have q5 : w2.cell? ⟨w.heap.size + 1, 5, none⟩ = some (.int .i64 0) := by go_simp
    have q6 : w2.cell? ⟨w.heap.size + 1, 6, none⟩ = some (.int .i64 0) := by go_simp
    have q7 : w2.cell? ⟨w.heap.size + 1, 7, none⟩ = some (.int .i64 0) := by go_simp
    refine bodyPost_ret (v := .tuple #[.agg #[.int .i64 6, .int .i64 tx, .int .i64 p, .int .i64 s, .int .i64 0, .int .i64 o, .int .i64 prev, .int .i64 pv], .bool true]) (by simp [results, Try.results40, go_sem, q0, q1, q2, q3, q4, q5, q6, q7]) rfl ⟨rfl, ?_⟩
    repeat (first | (with_reducible exact HB2.out) | refine below_set ?_ (by omega))
set_option maxHeartbeats 2000000 in
set_option maxRecDepth 100000 in
theorem implRecBack_no (k tx p s o n pv nx prev : Int) (w : World) (hk : ¬ backB k tx p s o n pv nx prev = true) :
    Calls Try.prog 40 #[.agg #[.int .i64 k, .int .i64 tx, .int .i64 p, .int .i64 s, .int .i64 o, .int .i64 n, .int .i64 pv, .int .i64 nx], .int .i64 prev] w fun e w' => e = .returned (.tuple #[.agg #[.int .i64 0, .int .i64 0, .int .i64 0, .int .i64 0, .int .i64 0, .int .i64 0, .int .i64 0, .int .i64 0], .bool false]) ∧ Below w.heap.size w w' := by
  have HKK := Aside0.mk hk
  have hd : recOkB k tx p s o n pv nx = false ∨ (recOkB k tx p s o n pv nx = true ∧ (k != 1) = true ∧ (k != 2) = true) ∨ (recOkB k tx p s o n pv nx = true ∧ (k != 1) = false ∧ inB prev 0 150 = false) ∨ (recOkB k tx p s o n pv nx = true ∧ (k != 1) = true ∧ (k != 2) = false ∧ inB prev 0 150 = false) := by
    unfold backB at hk
    by_cases hr0 : recOkB k tx p s o n pv nx = true
    · have hno : (k == 1 || k == 2) = true → inB prev 0 150 = false := fun h => by
        cases hp : inB prev 0 150 with
        | false => rfl
        | true => exact absurd (by rw [hr0, h, hp]; rfl) hk
      by_cases h1 : k = 1
      · exact .inr (.inr (.inl ⟨hr0, by simp [h1], hno (by simp [h1])⟩))
      · by_cases h2 : k = 2
        · exact .inr (.inr (.inr ⟨hr0, by simp [h1], by simp [h2], hno (by simp [h2])⟩))
        · exact .inr (.inl ⟨hr0, by simp [h1], by simp [h2]⟩)
    · exact .inl (by simpa using hr0)
  clear hk
  rcases hd with hr | ⟨hr, h1, h2⟩ | ⟨hr, h1, hp⟩ | ⟨hr, h1, h2, hp⟩
  all_goals
    go_enter Try.func40, Try.ntmps40
    go_wp2_with fail
    refine (implRecOk_calls _ _ _ _ _ _ _ _ _).mono ?_
    rintro e w1 ⟨rfl, hb⟩
    obtain ⟨hc1, hf1⟩ := bcell hb
    have hz1 := hb.size
    simp at hz1
    have hy1 : w.heap.size < w1.heap.size := by omega
    have hy2 : w.heap.size + 1 < w1.heap.size := by omega
    have HB1 : Aside0 (Below w.heap.size w w1) := ⟨below_then (bl2 _ _) (by simp; omega) hb⟩
    clear hb
    go_wp2_with (go_at_call 78; refine (in_calls _ _ _ _).mono ?_; rintro e w' ⟨rfl, rfl⟩)
    have q0 : w1.cell? ⟨w.heap.size + 1, 0, none⟩ = some (.int .i64 0) := by go_simp
    have q1 : w1.cell? ⟨w.heap.size + 1, 1, none⟩ = some (.int .i64 0) := by go_simp
    have q2 : w1.cell? ⟨w.heap.size + 1, 2, none⟩ = some (.int .i64 0) := by go_simp
    have q3 : w1.cell? ⟨w.heap.size + 1, 3, none⟩ = some (.int .i64 0) := by go_simp
    have q4 : w1.cell? ⟨w.heap.size + 1, 4, none⟩ = some (.int .i64 0) := by go_simp
    have q5 : w1.cell? ⟨w.heap.size + 1, 5, none⟩ = some (.int .i64 0) := by go_simp
    have q6 : w1.cell? ⟨w.heap.size + 1, 6, none⟩ = some (.int .i64 0) := by go_simp
    have q7 : w1.cell? ⟨w.heap.size + 1, 7, none⟩ = some (.int .i64 0) := by go_simp
    refine bodyPost_ret (v := .tuple #[.agg #[.int .i64 0, .int .i64 0, .int .i64 0, .int .i64 0, .int .i64 0, .int .i64 0, .int .i64 0, .int .i64 0], .bool false]) (by simp [results, Try.results40, go_sem, q0, q1, q2, q3, q4, q5, q6, q7]) rfl ⟨rfl, ?_⟩
    repeat (first | (with_reducible exact HB1.out) | refine below_set ?_ (by omega))
end Go.Proofs.Ytcefiblpnegepaa.T
