/- Walk of the law FnExactRecBack. -/
import Derived.Test.YtphoilaeeoacnaaRecBack
import Derived.Test.YtphoilaeeoacnaaOpen
namespace Go.Proofs.Ytphoilaeeoacnaa.T
open Go.RowKit Go.Proofs.YtphoilaeeoacnaaW.PrintWords
set_option linter.unusedSimpArgs false
set_option linter.unusedVariables false
theorem eqRec_same (a0 a1 a2 a3 a4 a5 a6 a7 : Int) (w : World) :
    Calls Try.prog 33 #[.agg #[.int .i64 a0, .int .i64 a1, .int .i64 a2, .int .i64 a3, .int .i64 a4, .int .i64 a5, .int .i64 a6, .int .i64 a7], .agg #[.int .i64 a0, .int .i64 a1, .int .i64 a2, .int .i64 a3, .int .i64 a4, .int .i64 a5, .int .i64 a6, .int .i64 a7]] w fun e w' => e = .returned (.bool true) ∧ Below w.heap.size w w' := by
  go_enter Try.func33, Try.ntmps33
  go_wp2
  go_ret
  exact ⟨rfl, bl2 _ _⟩
set_option maxHeartbeats 4000000 in
set_option maxRecDepth 100000 in
theorem FnExactRecBack_walk (a0 a1 a2 a3 a4 a5 a6 a7 prev : Int) (w : World) (_g : I64 a0 ∧ I64 a1 ∧ I64 a2 ∧ I64 a3 ∧ I64 a4 ∧ I64 a5 ∧ I64 a6 ∧ I64 a7) (_g2 : I64 prev) :
    Calls Try.prog 10 #[.agg #[.int .i64 a0, .int .i64 a1, .int .i64 a2, .int .i64 a3, .int .i64 a4, .int .i64 a5, .int .i64 a6, .int .i64 a7], .int .i64 prev] w fun e w' => e = .returned (.bool true) ∧ Below w.heap.size w w' := by
  by_cases hk : backB a0 a1 a2 a3 a4 a5 a6 a7 prev = true
  · have HKK := Aside0.mk hk
    clear hk
    have HB0 := Aside0.mk (Below.refl w.heap.size w)
    have HZ0 := Aside0.mk (Nat.le_refl w.heap.size)
    go_enter Try.func10, Try.ntmps10
    go_wp2_with fail
    refine (toRec_calls a0 a1 a2 a3 a4 a5 a6 a7 _).mono ?_
    rintro e w1 ⟨rfl, hb⟩
    obtain ⟨hc1, hf1⟩ := bcell hb
    have hz1 := hb.size
    (try simp at hz1)
    have HB1 : Aside0 (Below w.heap.size w w1) := ⟨below_then (by repeat (first | (with_reducible exact HB0.out) | (with_reducible refine below_alloc ?_ _) | (with_reducible refine pw_below_drewN ?_ _) | (with_reducible refine below_drew ?_) | (refine below_set ?_ (by have := HZ0.out; omega)))) (by have := HZ0.out; first | (simp; done) | (simp; omega) | omega) hb⟩
    have HZ1 := Aside0.mk (HB1.out.size)
    have HT1 := Aside0.mk hb
    clear hb
    have hy1_0 : w.heap.size < w1.heap.size := (by omega)
    go_wp2_with fail
    refine (specRecBack_yes a0 a1 a2 a3 a4 a5 a6 a7 prev _ HKK.out).mono ?_
    rintro e w2 ⟨rfl, hb⟩
    obtain ⟨hc2, hf2⟩ := bcell hb
    have hz2 := hb.size
    (try simp at hz2)
    have HB2 : Aside0 (Below w.heap.size w w2) := ⟨below_then (by repeat (first | (with_reducible exact HB1.out) | (with_reducible refine below_alloc ?_ _) | (with_reducible refine pw_below_drewN ?_ _) | (with_reducible refine below_drew ?_) | (refine below_set ?_ (by have := HZ1.out; omega)))) (by have := HZ1.out; first | (simp; done) | (simp; omega) | omega) hb⟩
    have HZ2 := Aside0.mk (HB2.out.size)
    have HT2 := Aside0.mk hb
    clear hb
    have hy2_0 : w.heap.size < w2.heap.size := (by omega)
    go_wp2_with fail
    refine (toRec_calls a0 a1 a2 a3 a4 a5 a6 a7 _).mono ?_
    rintro e w3 ⟨rfl, hb⟩
    obtain ⟨hc3, hf3⟩ := bcell hb
    have hz3 := hb.size
    (try simp at hz3)
    have HB3 : Aside0 (Below w.heap.size w w3) := ⟨below_then (by repeat (first | (with_reducible exact HB2.out) | (with_reducible refine below_alloc ?_ _) | (with_reducible refine pw_below_drewN ?_ _) | (with_reducible refine below_drew ?_) | (refine below_set ?_ (by have := HZ2.out; omega)))) (by have := HZ2.out; first | (simp; done) | (simp; omega) | omega) hb⟩
    have HZ3 := Aside0.mk (HB3.out.size)
    have HT3 := Aside0.mk hb
    clear hb
    have hy3_0 : w.heap.size < w3.heap.size := (by omega)
    have hy3_1 : w2.heap.size < w3.heap.size := (by omega)
    go_wp2_with fail
    refine (implRecBack_yes a0 a1 a2 a3 a4 a5 a6 a7 prev _ HKK.out).mono ?_
    rintro e w4 ⟨rfl, hb⟩
    obtain ⟨hc4, hf4⟩ := bcell hb
    have hz4 := hb.size
    (try simp at hz4)
    have HB4 : Aside0 (Below w.heap.size w w4) := ⟨below_then (by repeat (first | (with_reducible exact HB3.out) | (with_reducible refine below_alloc ?_ _) | (with_reducible refine pw_below_drewN ?_ _) | (with_reducible refine below_drew ?_) | (refine below_set ?_ (by have := HZ3.out; omega)))) (by have := HZ3.out; first | (simp; done) | (simp; omega) | omega) hb⟩
    have HZ4 := Aside0.mk (HB4.out.size)
    have HT4 := Aside0.mk hb
    clear hb
    have hy4_0 : w.heap.size < w4.heap.size := (by omega)
    have hy4_1 : w2.heap.size < w4.heap.size := (by omega)
    go_wp2_with fail
    refine (eqRec_same 6 a1 a2 a3 0 a4 prev a6 _).mono ?_
    rintro e w5 ⟨rfl, hb⟩
    obtain ⟨hc5, hf5⟩ := bcell hb
    have hz5 := hb.size
    (try simp at hz5)
    have HB5 : Aside0 (Below w.heap.size w w5) := ⟨below_then (by repeat (first | (with_reducible exact HB4.out) | (with_reducible refine below_alloc ?_ _) | (with_reducible refine pw_below_drewN ?_ _) | (with_reducible refine below_drew ?_) | (refine below_set ?_ (by have := HZ4.out; omega)))) (by have := HZ4.out; first | (simp; done) | (simp; omega) | omega) hb⟩
    have HZ5 := Aside0.mk (HB5.out.size)
    have HT5 := Aside0.mk hb
    clear hb
    have hy5_0 : w.heap.size < w5.heap.size := (by omega)
    have hy5_1 : w2.heap.size < w5.heap.size := (by omega)
    have hy5_2 : w4.heap.size < w5.heap.size := (by omega)
    go_wp2_with fail
    go_ret
    exact ⟨rfl, HB5.out⟩
  · have HKK := Aside0.mk hk
    clear hk
    have HB0 := Aside0.mk (Below.refl w.heap.size w)
    have HZ0 := Aside0.mk (Nat.le_refl w.heap.size)
    go_enter Try.func10, Try.ntmps10
    go_wp2_with fail
    refine (toRec_calls a0 a1 a2 a3 a4 a5 a6 a7 _).mono ?_
    rintro e w1 ⟨rfl, hb⟩
    obtain ⟨hc1, hf1⟩ := bcell hb
    have hz1 := hb.size
    (try simp at hz1)
    have HB1 : Aside0 (Below w.heap.size w w1) := ⟨below_then (by repeat (first | (with_reducible exact HB0.out) | (with_reducible refine below_alloc ?_ _) | (with_reducible refine pw_below_drewN ?_ _) | (with_reducible refine below_drew ?_) | (refine below_set ?_ (by have := HZ0.out; omega)))) (by have := HZ0.out; first | (simp; done) | (simp; omega) | omega) hb⟩
    have HZ1 := Aside0.mk (HB1.out.size)
    have HT1 := Aside0.mk hb
    clear hb
    have hy1_0 : w.heap.size < w1.heap.size := (by omega)
    go_wp2_with fail
    refine (specRecBack_no a0 a1 a2 a3 a4 a5 a6 a7 prev _ HKK.out).mono ?_
    rintro e w2 ⟨rfl, hb⟩
    obtain ⟨hc2, hf2⟩ := bcell hb
    have hz2 := hb.size
    (try simp at hz2)
    have HB2 : Aside0 (Below w.heap.size w w2) := ⟨below_then (by repeat (first | (with_reducible exact HB1.out) | (with_reducible refine below_alloc ?_ _) | (with_reducible refine pw_below_drewN ?_ _) | (with_reducible refine below_drew ?_) | (refine below_set ?_ (by have := HZ1.out; omega)))) (by have := HZ1.out; first | (simp; done) | (simp; omega) | omega) hb⟩
    have HZ2 := Aside0.mk (HB2.out.size)
    have HT2 := Aside0.mk hb
    clear hb
    have hy2_0 : w.heap.size < w2.heap.size := (by omega)
    go_wp2_with fail
    refine (toRec_calls a0 a1 a2 a3 a4 a5 a6 a7 _).mono ?_
    rintro e w3 ⟨rfl, hb⟩
    obtain ⟨hc3, hf3⟩ := bcell hb
    have hz3 := hb.size
    (try simp at hz3)
    have HB3 : Aside0 (Below w.heap.size w w3) := ⟨below_then (by repeat (first | (with_reducible exact HB2.out) | (with_reducible refine below_alloc ?_ _) | (with_reducible refine pw_below_drewN ?_ _) | (with_reducible refine below_drew ?_) | (refine below_set ?_ (by have := HZ2.out; omega)))) (by have := HZ2.out; first | (simp; done) | (simp; omega) | omega) hb⟩
    have HZ3 := Aside0.mk (HB3.out.size)
    have HT3 := Aside0.mk hb
    clear hb
    have hy3_0 : w.heap.size < w3.heap.size := (by omega)
    have hy3_1 : w2.heap.size < w3.heap.size := (by omega)
    go_wp2_with fail
    refine (implRecBack_no a0 a1 a2 a3 a4 a5 a6 a7 prev _ HKK.out).mono ?_
    rintro e w4 ⟨rfl, hb⟩
    obtain ⟨hc4, hf4⟩ := bcell hb
    have hz4 := hb.size
    (try simp at hz4)
    have HB4 : Aside0 (Below w.heap.size w w4) := ⟨below_then (by repeat (first | (with_reducible exact HB3.out) | (with_reducible refine below_alloc ?_ _) | (with_reducible refine pw_below_drewN ?_ _) | (with_reducible refine below_drew ?_) | (refine below_set ?_ (by have := HZ3.out; omega)))) (by have := HZ3.out; first | (simp; done) | (simp; omega) | omega) hb⟩
    have HZ4 := Aside0.mk (HB4.out.size)
    have HT4 := Aside0.mk hb
    clear hb
    have hy4_0 : w.heap.size < w4.heap.size := (by omega)
    have hy4_1 : w2.heap.size < w4.heap.size := (by omega)
    go_wp2_with fail
    refine (eqRec_same 0 0 0 0 0 0 0 0 _).mono ?_
    rintro e w5 ⟨rfl, hb⟩
    obtain ⟨hc5, hf5⟩ := bcell hb
    have hz5 := hb.size
    (try simp at hz5)
    have HB5 : Aside0 (Below w.heap.size w w5) := ⟨below_then (by repeat (first | (with_reducible exact HB4.out) | (with_reducible refine below_alloc ?_ _) | (with_reducible refine pw_below_drewN ?_ _) | (with_reducible refine below_drew ?_) | (refine below_set ?_ (by have := HZ4.out; omega)))) (by have := HZ4.out; first | (simp; done) | (simp; omega) | omega) hb⟩
    have HZ5 := Aside0.mk (HB5.out.size)
    have HT5 := Aside0.mk hb
    clear hb
    have hy5_0 : w.heap.size < w5.heap.size := (by omega)
    have hy5_1 : w2.heap.size < w5.heap.size := (by omega)
    have hy5_2 : w4.heap.size < w5.heap.size := (by omega)
    go_wp2_with fail
    go_ret
    exact ⟨rfl, HB5.out⟩
end Go.Proofs.Ytphoilaeeoacnaa.T
