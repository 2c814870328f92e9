/- Walk of the law FnRecNot. -/
import Derived.Test.YtjicmjfnmdhahaaDrawRecBack
import Derived.Test.YtjicmjfnmdhahaaRecBack
namespace Go.Proofs.Ytjicmjfnmdhahaa.T
open Go.RowKit Go.Proofs.YtjicmjfnmdhahaaW.PrintWords Go.Proofs.Ytjicmjfnmdhahaa.Pr
set_option linter.unusedSimpArgs false
set_option linter.unusedVariables false
theorem eqRecA (d : Nat) (w : World) (x0 y0 : Int) (x1 y1 : Int) (x2 y2 : Int) (x3 y3 : Int) (x4 y4 : Int) (x5 y5 : Int) (x6 y6 : Int) (x7 y7 : Int) :
    (Op.equalIn (d + 2) 25 (.agg #[.int .i64 x0, .int .i64 x1, .int .i64 x2, .int .i64 x3, .int .i64 x4, .int .i64 x5, .int .i64 x6, .int .i64 x7]) (.agg #[.int .i64 y0, .int .i64 y1, .int .i64 y2, .int .i64 y3, .int .i64 y4, .int .i64 y5, .int .i64 y6, .int .i64 y7])).run Try.prog w = .ok (x0 == y0 && (x1 == y1 && (x2 == y2 && (x3 == y3 && (x4 == y4 && (x5 == y5 && (x6 == y6 && (x7 == y7)))))))) w := by
  refine eqA_of Try.underlying25 (by kernel_rfl) ?_
  refine eqf_cons (by rfl) (by go_simp; rfl) (by go_simp; rfl) (by go_simp) ?_
  refine eqf_cons (by rfl) (by go_simp; rfl) (by go_simp; rfl) (by go_simp) ?_
  refine eqf_cons (by rfl) (by go_simp; rfl) (by go_simp; rfl) (by go_simp) ?_
  refine eqf_cons (by rfl) (by go_simp; rfl) (by go_simp; rfl) (by go_simp) ?_
  refine eqf_cons (by rfl) (by go_simp; rfl) (by go_simp; rfl) (by go_simp) ?_
  refine eqf_cons (by rfl) (by go_simp; rfl) (by go_simp; rfl) (by go_simp) ?_
  refine eqf_cons (by rfl) (by go_simp; rfl) (by go_simp; rfl) (by go_simp) ?_
  exact eqf_last (by rfl) (by go_simp; rfl) (by go_simp; rfl) (by go_simp)
attribute [local go_sem high] eqRecA
set_option maxHeartbeats 4000000 in
set_option maxRecDepth 100000 in
theorem FnRecNot_walk (A : Option Addr) (c : Nat) (l : List Int) (w : World) (hc : l.length ≤ c) (hC : Kd.C (Kd.int .u8) w A l.length l) (hby : Bytes l) :
    Calls Try.prog 9 #[.slice A l.length c] w fun e w' => e = .returned (.bool true) ∧ Below w.heap.size w w' := by
  have HC := Aside0.mk hC
  have HBY := Aside0.mk hby
  have hm : l.length ≤ 9223372036854775807 := hC.2.1
  clear hC hby
  by_cases hlen : (1048576 : Int) < l.length
  · go_enter Try.func9, Try.ntmps9
    go_wp2
    go_ret
    exact ⟨rfl, Below.refl _ _⟩
  · have hlen2 : (l.length : Int) ≤ 1048576 := by omega
    clear hlen
    have HB0 := Aside0.mk (Below.refl w.heap.size w)
    have HZ0 := Aside0.mk (Nat.le_refl w.heap.size)
    go_enter Try.func9, Try.ntmps9
    go_wp2_with fail
    refine (DrawRecBack_calls A c l _ HC.out hc HBY.out).mono ?_
    rintro e w1 ⟨a0, a1, a2, a3, a4, a5, a6, a7, pv, rfl, hb⟩
    obtain ⟨hc1, hf1⟩ := bcell hb
    have hz1 := hb.size
    (try simp at hz1)
    have HB1 : Aside0 (Below w.heap.size w w1) := ⟨below_then (by repeat (first | (with_reducible exact HB0.out) | (with_reducible refine below_alloc ?_ _) | (with_reducible refine pw_below_drewN ?_ _) | (with_reducible refine below_drew ?_) | (refine below_set ?_ (by have := HZ0.out; omega)))) (by have := HZ0.out; first | (simp; done) | (simp; omega) | omega) hb⟩
    have HZ1 := Aside0.mk (HB1.out.size)
    have HT1 := Aside0.mk hb
    clear hb
    by_cases hk : backB a0 a1 a2 a3 a4 a5 a6 a7 pv = true
    all_goals have HKK := Aside0.mk hk
    all_goals clear hk
    · go_wp2_with fail
      refine (specRecBack_yes a0 a1 a2 a3 a4 a5 a6 a7 pv _ HKK.out).mono ?_
      rintro e w2 ⟨rfl, hb⟩
      obtain ⟨hc2, hf2⟩ := bcell hb
      have hz2 := hb.size
      (try simp at hz2)
      have HB2 : Aside0 (Below w.heap.size w w2) := ⟨below_then (by repeat (first | (with_reducible exact HB1.out) | (with_reducible refine below_alloc ?_ _) | (with_reducible refine pw_below_drewN ?_ _) | (with_reducible refine below_drew ?_) | (refine below_set ?_ (by have := HZ1.out; omega)))) (by have := HZ1.out; first | (simp; done) | (simp; omega) | omega) hb⟩
      have HZ2 := Aside0.mk (HB2.out.size)
      have HT2 := Aside0.mk hb
      clear hb
      have hy2_0 : w1.heap.size < w2.heap.size := (by omega)
      go_wp2_with fail
      refine (implRecBack_yes a0 a1 a2 a3 a4 a5 a6 a7 pv _ HKK.out).mono ?_
      rintro e w3 ⟨rfl, hb⟩
      obtain ⟨hc3, hf3⟩ := bcell hb
      have hz3 := hb.size
      (try simp at hz3)
      have HB3 : Aside0 (Below w.heap.size w w3) := ⟨below_then (by repeat (first | (with_reducible exact HB2.out) | (with_reducible refine below_alloc ?_ _) | (with_reducible refine pw_below_drewN ?_ _) | (with_reducible refine below_drew ?_) | (refine below_set ?_ (by have := HZ2.out; omega)))) (by have := HZ2.out; first | (simp; done) | (simp; omega) | omega) hb⟩
      have HZ3 := Aside0.mk (HB3.out.size)
      have HT3 := Aside0.mk hb
      clear hb
      have hy3_0 : w1.heap.size < w3.heap.size := (by omega)
      have hy3_1 : w2.heap.size < w3.heap.size := (by omega)
      have hya : w3.heap.size < w3.heap.size + 1 := by omega
      go_wp2_with fail
      refine (specRecOk_calls a0 a1 a2 a3 a4 a5 a6 a7 _).mono ?_
      rintro e w4 ⟨rfl, hb⟩
      obtain ⟨hc4, hf4⟩ := bcell hb
      have hz4 := hb.size
      (try simp at hz4)
      have HB4 : Aside0 (Below w.heap.size w w4) := ⟨below_then (by repeat (first | (with_reducible exact HB3.out) | (with_reducible refine below_alloc ?_ _) | (with_reducible refine pw_below_drewN ?_ _) | (with_reducible refine below_drew ?_) | (refine below_set ?_ (by have := HZ3.out; omega)))) (by have := HZ3.out; first | (simp; done) | (simp; omega) | omega) hb⟩
      have HZ4 := Aside0.mk (HB4.out.size)
      have HT4 := Aside0.mk hb
      clear hb
      have hy4_0 : w1.heap.size < w4.heap.size := (by omega)
      have hy4_1 : w2.heap.size < w4.heap.size := (by omega)
      have hy4_2 : w3.heap.size < w4.heap.size := (by omega)
      have hr : recOkB a0 a1 a2 a3 a4 a5 a6 a7 = true := by have hk := HKK.out; unfold backB at hk; simp only [Bool.and_eq_true] at hk; exact hk.1.1
      have hp : inB pv 0 150 = true := by have hk := HKK.out; unfold backB at hk; simp only [Bool.and_eq_true] at hk; exact hk.2
      have h12 : a0 = 1 ∨ a0 = 2 := by have hk := HKK.out; unfold backB at hk; simp only [Bool.and_eq_true, Bool.or_eq_true, beq_iff_eq] at hk; exact hk.1.2
      have hp2 : 0 ≤ pv ∧ pv ≤ 150 := by simpa [inB] using hp
      have hno : ¬ backB 6 a1 a2 a3 0 a4 pv a6 pv = true := by simp [backB]
      rw [hr]
      go_wp2_with fail
      refine (implRecBack_no 6 a1 a2 a3 0 a4 pv a6 pv _ hno).mono ?_
      rintro e w5 ⟨rfl, hb⟩
      obtain ⟨hc5, hf5⟩ := bcell hb
      have hz5 := hb.size
      (try simp at hz5)
      have HB5 : Aside0 (Below w.heap.size w w5) := ⟨below_then (by repeat (first | (with_reducible exact HB4.out) | (with_reducible refine below_alloc ?_ _) | (with_reducible refine pw_below_drewN ?_ _) | (with_reducible refine below_drew ?_) | (refine below_set ?_ (by have := HZ4.out; omega)))) (by have := HZ4.out; first | (simp; done) | (simp; omega) | omega) hb⟩
      have HZ5 := Aside0.mk (HB5.out.size)
      have HT5 := Aside0.mk hb
      clear hb
      have hy5_0 : w1.heap.size < w5.heap.size := (by omega)
      have hy5_1 : w2.heap.size < w5.heap.size := (by omega)
      have hy5_2 : w3.heap.size < w5.heap.size := (by omega)
      rcases h12 with rfl | rfl <;> (go_wp2_with fail; go_ret; exact ⟨by first | rfl | simp, by repeat (first | (with_reducible exact HB5.out) | (with_reducible refine below_alloc ?_ _) | (with_reducible refine pw_below_drewN ?_ _) | (with_reducible refine below_drew ?_) | (refine below_set ?_ (by have := HZ5.out; omega)))⟩)
    · go_wp2_with fail
      refine (specRecBack_no a0 a1 a2 a3 a4 a5 a6 a7 pv _ HKK.out).mono ?_
      rintro e w2 ⟨rfl, hb⟩
      obtain ⟨hc2, hf2⟩ := bcell hb
      have hz2 := hb.size
      (try simp at hz2)
      have HB2 : Aside0 (Below w.heap.size w w2) := ⟨below_then (by repeat (first | (with_reducible exact HB1.out) | (with_reducible refine below_alloc ?_ _) | (with_reducible refine pw_below_drewN ?_ _) | (with_reducible refine below_drew ?_) | (refine below_set ?_ (by have := HZ1.out; omega)))) (by have := HZ1.out; first | (simp; done) | (simp; omega) | omega) hb⟩
      have HZ2 := Aside0.mk (HB2.out.size)
      have HT2 := Aside0.mk hb
      clear hb
      have hy2_0 : w1.heap.size < w2.heap.size := (by omega)
      go_wp2_with fail
      refine (implRecBack_no a0 a1 a2 a3 a4 a5 a6 a7 pv _ HKK.out).mono ?_
      rintro e w3 ⟨rfl, hb⟩
      obtain ⟨hc3, hf3⟩ := bcell hb
      have hz3 := hb.size
      (try simp at hz3)
      have HB3 : Aside0 (Below w.heap.size w w3) := ⟨below_then (by repeat (first | (with_reducible exact HB2.out) | (with_reducible refine below_alloc ?_ _) | (with_reducible refine pw_below_drewN ?_ _) | (with_reducible refine below_drew ?_) | (refine below_set ?_ (by have := HZ2.out; omega)))) (by have := HZ2.out; first | (simp; done) | (simp; omega) | omega) hb⟩
      have HZ3 := Aside0.mk (HB3.out.size)
      have HT3 := Aside0.mk hb
      clear hb
      have hy3_0 : w1.heap.size < w3.heap.size := (by omega)
      have hy3_1 : w2.heap.size < w3.heap.size := (by omega)
      have hya : w3.heap.size < w3.heap.size + 1 := by omega
      go_wp2_with fail
      refine (specRecOk_calls a0 a1 a2 a3 a4 a5 a6 a7 _).mono ?_
      rintro e w4 ⟨rfl, hb⟩
      obtain ⟨hc4, hf4⟩ := bcell hb
      have hz4 := hb.size
      (try simp at hz4)
      have HB4 : Aside0 (Below w.heap.size w w4) := ⟨below_then (by repeat (first | (with_reducible exact HB3.out) | (with_reducible refine below_alloc ?_ _) | (with_reducible refine pw_below_drewN ?_ _) | (with_reducible refine below_drew ?_) | (refine below_set ?_ (by have := HZ3.out; omega)))) (by have := HZ3.out; first | (simp; done) | (simp; omega) | omega) hb⟩
      have HZ4 := Aside0.mk (HB4.out.size)
      have HT4 := Aside0.mk hb
      clear hb
      have hy4_0 : w1.heap.size < w4.heap.size := (by omega)
      have hy4_1 : w2.heap.size < w4.heap.size := (by omega)
      have hy4_2 : w3.heap.size < w4.heap.size := (by omega)
      go_wp2_with fail
      rotate_left
      · have hno : ¬ backB 0 0 0 0 0 0 0 0 pv = true := by simp [backB]
        skip
        refine (implRecBack_no 0 0 0 0 0 0 0 0 pv _ hno).mono ?_
        rintro e w5 ⟨rfl, hb⟩
        obtain ⟨hc5, hf5⟩ := bcell hb
        have hz5 := hb.size
        (try simp at hz5)
        have HB5 : Aside0 (Below w.heap.size w w5) := ⟨below_then (by repeat (first | (with_reducible exact HB4.out) | (with_reducible refine below_alloc ?_ _) | (with_reducible refine pw_below_drewN ?_ _) | (with_reducible refine below_drew ?_) | (refine below_set ?_ (by have := HZ4.out; omega)))) (by have := HZ4.out; first | (simp; done) | (simp; omega) | omega) hb⟩
        have HZ5 := Aside0.mk (HB5.out.size)
        have HT5 := Aside0.mk hb
        clear hb
        have hy5_0 : w1.heap.size < w5.heap.size := (by omega)
        have hy5_1 : w2.heap.size < w5.heap.size := (by omega)
        have hy5_2 : w3.heap.size < w5.heap.size := (by omega)
        have h12 : (a0 == 1) = false ∧ (a0 == 2) = false := by
          have hk := HKK.out
          simp [backB, inB, *] at hk ⊢
          omega
        go_wp2_with fail
        go_ret
        exact ⟨by simp [*], by repeat (first | (with_reducible exact HB5.out) | (with_reducible refine below_alloc ?_ _) | (with_reducible refine pw_below_drewN ?_ _) | (with_reducible refine below_drew ?_) | (refine below_set ?_ (by have := HZ5.out; omega)))⟩
      all_goals (go_ret; exact ⟨by first | rfl | simp, by repeat (first | (with_reducible exact HB4.out) | (with_reducible refine below_alloc ?_ _) | (with_reducible refine pw_below_drewN ?_ _) | (with_reducible refine below_drew ?_) | (refine below_set ?_ (by have := HZ4.out; omega)))⟩)
end Go.Proofs.Ytjicmjfnmdhahaa.T
