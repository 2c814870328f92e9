/- Walk of the law FnRecForm. -/
import Derived.Test.YtjicmjfnmdhahaaDrawRec
namespace Go.Proofs.Ytjicmjfnmdhahaa.T
open Go.RowKit Go.Proofs.YtjicmjfnmdhahaaW.PrintWords Go.Proofs.Ytjicmjfnmdhahaa.Pr
set_option linter.unusedSimpArgs false
set_option linter.unusedVariables false
theorem recOkB_tx (k p s o n pv nx : Int) : recOkB k 0 p s o n pv nx = false := by
  have h : inB 0 1 3 = false := by decide
  simp [recOkB, h]
theorem recOkB_kind (tx p s o n pv nx : Int) : recOkB 7 tx p s o n pv nx = false := by simp [recOkB]
theorem recOkB_page (k tx s o n pv nx : Int) : recOkB k tx 5 s o n pv nx = false := by
  have h : inB 5 0 4 = false := by decide
  unfold recOkB
  rw [h]
  simp
theorem recOkB_slot (k tx p o n pv nx : Int) : recOkB k tx p 3 o n pv nx = false := by
  have h : inB 3 0 2 = false := by decide
  have h1 : inB 3 (-1) 2 = false := by decide
  unfold recOkB
  rw [h, h1]
  simp
set_option maxHeartbeats 4000000 in
set_option maxRecDepth 100000 in
theorem FnRecForm_walk (A : Option Addr) (c : Nat) (l : List Int) (w : World) (hc : l.length ≤ c) (hC : Kd.C (Kd.int .u8) w A l.length l) (hby : Bytes l) :
    Calls Try.prog 8 #[.slice A l.length c] w fun e w' => e = .returned (.bool true) ∧ Below w.heap.size w w' := by
  have HC := Aside0.mk hC
  have HBY := Aside0.mk hby
  have hm : l.length ≤ 9223372036854775807 := hC.2.1
  clear hC hby
  by_cases hlen : (1048576 : Int) < l.length
  · go_enter Try.func8, Try.ntmps8
    go_wp2
    go_ret
    exact ⟨rfl, Below.refl _ _⟩
  · have hlen2 : (l.length : Int) ≤ 1048576 := by omega
    clear hlen
    have HB0 := Aside0.mk (Below.refl w.heap.size w)
    have HZ0 := Aside0.mk (Nat.le_refl w.heap.size)
    go_enter Try.func8, Try.ntmps8
    go_wp2_with fail
    refine (DrawRecOk_calls A c l _ HC.out hc HBY.out).mono ?_
    rintro e w1 ⟨a0, a1, a2, a3, a4, a5, a6, a7, rfl, hS, hb⟩
    obtain ⟨hc1, hf1⟩ := bcell hb
    have hz1 := hb.size
    (try simp at hz1)
    have HB1 : Aside0 (Below w.heap.size w w1) := ⟨below_then (by repeat (first | (with_reducible exact HB0.out) | (with_reducible refine below_alloc ?_ _) | (with_reducible refine pw_below_drewN ?_ _) | (with_reducible refine below_drew ?_) | (refine below_set ?_ (by have := HZ0.out; omega)))) (by have := HZ0.out; first | (simp; done) | (simp; omega) | omega) hb⟩
    have HZ1 := Aside0.mk (HB1.out.size)
    have HT1 := Aside0.mk hb
    clear hb
    clear hS
    go_wp2_with fail
    refine (implRecOk_calls a0 a1 a2 a3 a4 a5 a6 a7 _).mono ?_
    rintro e w2 ⟨rfl, hb⟩
    obtain ⟨hc2, hf2⟩ := bcell hb
    have hz2 := hb.size
    (try simp at hz2)
    have HB2 : Aside0 (Below w.heap.size w w2) := ⟨below_then (by repeat (first | (with_reducible exact HB1.out) | (with_reducible refine below_alloc ?_ _) | (with_reducible refine pw_below_drewN ?_ _) | (with_reducible refine below_drew ?_) | (refine below_set ?_ (by have := HZ1.out; omega)))) (by have := HZ1.out; first | (simp; done) | (simp; omega) | omega) hb⟩
    have HZ2 := Aside0.mk (HB2.out.size)
    have HT2 := Aside0.mk hb
    clear hb
    have hy2_0 : w1.heap.size < w2.heap.size := (by omega)
    go_wp2_with fail
    refine (specRecOk_calls a0 a1 a2 a3 a4 a5 a6 a7 _).mono ?_
    rintro e w3 ⟨rfl, hb⟩
    obtain ⟨hc3, hf3⟩ := bcell hb
    have hz3 := hb.size
    (try simp at hz3)
    have HB3 : Aside0 (Below w.heap.size w w3) := ⟨below_then (by repeat (first | (with_reducible exact HB2.out) | (with_reducible refine below_alloc ?_ _) | (with_reducible refine pw_below_drewN ?_ _) | (with_reducible refine below_drew ?_) | (refine below_set ?_ (by have := HZ2.out; omega)))) (by have := HZ2.out; first | (simp; done) | (simp; omega) | omega) hb⟩
    have HZ3 := Aside0.mk (HB3.out.size)
    have HT3 := Aside0.mk hb
    clear hb
    have hy3_0 : w1.heap.size < w3.heap.size := (by omega)
    by_cases hk : recOkB a0 a1 a2 a3 a4 a5 a6 a7 = true
    · have hya : w1.heap.size < w3.heap.size + 1 := by omega
      have hyb : w1.heap.size < w3.heap.size + 1 + 1 := by omega
      go_wp2_with fail
      refine (implRecOk_calls a0 0 a2 a3 a4 a5 a6 a7 _).mono ?_
      rintro e w4 ⟨rfl, hb⟩
      obtain ⟨hc4, hf4⟩ := bcell hb
      have hz4 := hb.size
      (try simp at hz4)
      have HB4 : Aside0 (Below w.heap.size w w4) := ⟨below_then (by repeat (first | (with_reducible exact HB3.out) | (with_reducible refine below_alloc ?_ _) | (with_reducible refine pw_below_drewN ?_ _) | (with_reducible refine below_drew ?_) | (refine below_set ?_ (by have := HZ3.out; omega)))) (by have := HZ3.out; first | (simp; done) | (simp; omega) | omega) hb⟩
      have HZ4 := Aside0.mk (HB4.out.size)
      have HT4 := Aside0.mk hb
      clear hb
      have hy4_0 : w1.heap.size < w4.heap.size := (by omega)
      rw [recOkB_tx]
      have hy4_1 : w3.heap.size + 1 < w4.heap.size := (by omega)
      have hy4_2 : w3.heap.size + 1 + 1 < w4.heap.size := (by omega)
      have hy4_3 : w3.heap.size + 1 + 1 + 1 < w4.heap.size := (by omega)
      go_wp2_with fail
      refine (implRecOk_calls a0 a1 5 a3 a4 a5 a6 a7 _).mono ?_
      rintro e w5 ⟨rfl, hb⟩
      obtain ⟨hc5, hf5⟩ := bcell hb
      have hz5 := hb.size
      (try simp at hz5)
      have HB5 : Aside0 (Below w.heap.size w w5) := ⟨below_then (by repeat (first | (with_reducible exact HB4.out) | (with_reducible refine below_alloc ?_ _) | (with_reducible refine pw_below_drewN ?_ _) | (with_reducible refine below_drew ?_) | (refine below_set ?_ (by have := HZ4.out; omega)))) (by have := HZ4.out; first | (simp; done) | (simp; omega) | omega) hb⟩
      have HZ5 := Aside0.mk (HB5.out.size)
      have HT5 := Aside0.mk hb
      clear hb
      have hy5_0 : w1.heap.size < w5.heap.size := (by omega)
      have hy5_1 : w3.heap.size + 1 < w5.heap.size := (by omega)
      have hy5_2 : w3.heap.size + 1 + 1 < w5.heap.size := (by omega)
      have hy5_3 : w3.heap.size + 1 + 1 + 1 < w5.heap.size := (by omega)
      rw [recOkB_page]
      go_wp2_with fail
      refine (implRecOk_calls 7 a1 a2 a3 a4 a5 a6 a7 _).mono ?_
      rintro e w6 ⟨rfl, hb⟩
      obtain ⟨hc6, hf6⟩ := bcell hb
      have hz6 := hb.size
      (try simp at hz6)
      have HB6 : Aside0 (Below w.heap.size w w6) := ⟨below_then (by repeat (first | (with_reducible exact HB5.out) | (with_reducible refine below_alloc ?_ _) | (with_reducible refine pw_below_drewN ?_ _) | (with_reducible refine below_drew ?_) | (refine below_set ?_ (by have := HZ5.out; omega)))) (by have := HZ5.out; first | (simp; done) | (simp; omega) | omega) hb⟩
      have HZ6 := Aside0.mk (HB6.out.size)
      have HT6 := Aside0.mk hb
      clear hb
      have hy6_0 : w1.heap.size < w6.heap.size := (by omega)
      have hy6_1 : w3.heap.size + 1 < w6.heap.size := (by omega)
      have hy6_2 : w3.heap.size + 1 + 1 < w6.heap.size := (by omega)
      have hy6_3 : w3.heap.size + 1 + 1 + 1 < w6.heap.size := (by omega)
      rw [recOkB_kind]
      go_wp2_with fail
      refine (implRecOk_calls a0 a1 a2 3 a4 a5 a6 a7 _).mono ?_
      rintro e w7 ⟨rfl, hb⟩
      obtain ⟨hc7, hf7⟩ := bcell hb
      have hz7 := hb.size
      (try simp at hz7)
      have HB7 : Aside0 (Below w.heap.size w w7) := ⟨below_then (by repeat (first | (with_reducible exact HB6.out) | (with_reducible refine below_alloc ?_ _) | (with_reducible refine pw_below_drewN ?_ _) | (with_reducible refine below_drew ?_) | (refine below_set ?_ (by have := HZ6.out; omega)))) (by have := HZ6.out; first | (simp; done) | (simp; omega) | omega) hb⟩
      have HZ7 := Aside0.mk (HB7.out.size)
      have HT7 := Aside0.mk hb
      clear hb
      have hy7_0 : w1.heap.size < w7.heap.size := (by omega)
      have hy7_1 : w3.heap.size + 1 < w7.heap.size := (by omega)
      have hy7_2 : w3.heap.size + 1 + 1 < w7.heap.size := (by omega)
      have hy7_3 : w3.heap.size + 1 + 1 + 1 < w7.heap.size := (by omega)
      rw [recOkB_slot]
      go_wp2_with fail
      go_ret
      exact ⟨rfl, HB7.out⟩
    · have hk2 : recOkB a0 a1 a2 a3 a4 a5 a6 a7 = false := by simpa using hk
      clear hk
      go_wp2_with fail
      refine (specRecOk_calls a0 a1 a2 a3 a4 a5 a6 a7 _).mono ?_
      rintro e w4 ⟨rfl, hb⟩
      obtain ⟨hc4, hf4⟩ := bcell hb
      have hz4 := hb.size
      (try simp at hz4)
      have HB4 : Aside0 (Below w.heap.size w w4) := ⟨below_then (by repeat (first | (with_reducible exact HB3.out) | (with_reducible refine below_alloc ?_ _) | (with_reducible refine pw_below_drewN ?_ _) | (with_reducible refine below_drew ?_) | (refine below_set ?_ (by have := HZ3.out; omega)))) (by have := HZ3.out; first | (simp; done) | (simp; omega) | omega) hb⟩
      have HZ4 := Aside0.mk (HB4.out.size)
      have HT4 := Aside0.mk hb
      clear hb
      have hy4_0 : w1.heap.size < w4.heap.size := (by omega)
      rw [hk2]
      go_wp2_with fail
      go_ret
      exact ⟨by first | rfl | simp, HB4.out⟩
end Go.Proofs.Ytjicmjfnmdhahaa.T
