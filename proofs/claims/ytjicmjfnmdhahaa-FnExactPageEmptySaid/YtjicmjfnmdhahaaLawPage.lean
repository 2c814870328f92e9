/- Walks of the laws FnExactPageOk and FnExactPageEmpty. -/
import Derived.Test.YtjicmjfnmdhahaaPage2
import Derived.Test.YtjicmjfnmdhahaaOpen
import Derived.Deep.RegionWith
import Derived.Deep.RegionHeld3
namespace Go.Proofs.Ytjicmjfnmdhahaa.T
open Go.RowKit Go.Proofs.YtjicmjfnmdhahaaW.PrintWords
set_option linter.unusedSimpArgs false
set_option linter.unusedVariables false

set_option maxHeartbeats 2000000 in
set_option maxRecDepth 100000 in
theorem FnExactPageOk_walk (a b : Int) (A : Option Addr) (c : Nat) (l : List Int) (w : World) (hc : l.length ≤ c) (hC : CI w A l) :
    Calls Try.prog 4 #[.agg #[.int .i64 a, .int .i64 b, .slice A l.length c]] w fun e w' => e = .returned (.bool true) ∧ Below w.heap.size w w' := by
  have HC := Aside0.mk hC
  clear hC
  by_cases hs : (l.length : Int) ≤ 1048576
  · have HS := Aside0.mk hs
    have hsz : szB l.length 1048576 = 1048576 - l.length := by unfold szB; rw [if_neg (by omega)]
    have HSZ := Aside0.mk hsz
    clear hsz
    have HB0 := Aside0.mk (Below.refl w.heap.size w)
    have HZ0 := Aside0.mk (Nat.le_refl w.heap.size)
    go_enter Try.func4, Try.ntmps4
    go_wp2_with fail
    refine (szPage_calls a b A c l 1048576 _ (by repeat (first | (with_reducible exact HC.out) | (with_reducible refine CI_alloc ?_ _) | (with_reducible refine CI_drewN ?_ _) | (with_reducible refine CI_drew ?_))) hc (by omega) (by omega)).mono ?_
    rintro e w1 ⟨rfl, hb⟩
    obtain ⟨hc1, hf1⟩ := bcell hb
    have hz1 := hb.size
    (try simp at hz1)
    have HB1 : Aside0 (Below w.heap.size w w1) := ⟨below_then (by repeat (first | (with_reducible exact HB0.out) | (with_reducible refine below_alloc ?_ _) | (with_reducible refine pw_below_drewN ?_ _) | (with_reducible refine below_drew ?_) | (refine below_set ?_ (by have := HZ0.out; omega)))) (by have := HZ0.out; first | (simp; done) | (simp; omega) | omega) hb⟩
    have HZ1 := Aside0.mk (HB1.out.size)
    have HT1 := Aside0.mk hb
    clear hb
    have hy1_0 : w.heap.size < w1.heap.size := (by omega)
    rw [HSZ.out]
    go_wp2_with fail
    refine (toPage_calls a b A c l _ (by repeat (first | (with_reducible exact HC.out) | (with_reducible refine CI_below ?_ HT1.out) | (with_reducible refine CI_alloc ?_ _) | (with_reducible refine CI_drewN ?_ _) | (with_reducible refine CI_drew ?_))) hc (by have := HS.out; omega)).mono ?_
    rintro e w2 ⟨v, rfl, hn, hb⟩
    obtain ⟨hc2, hf2⟩ := bcell hb
    have hz2 := hb.size
    (try simp at hz2)
    have HB2 : Aside0 (Below w.heap.size w w2) := ⟨below_then (by repeat (first | (with_reducible exact HB1.out) | (with_reducible refine below_alloc ?_ _) | (with_reducible refine pw_below_drewN ?_ _) | (with_reducible refine below_drew ?_) | (refine below_set ?_ (by have := HZ1.out; omega)))) (by have := HZ1.out; first | (simp; done) | (simp; omega) | omega) hb⟩
    have HZ2 := Aside0.mk (HB2.out.size)
    have HT2 := Aside0.mk hb
    clear hb
    have hy2_0 : w.heap.size < w2.heap.size := (by omega)
    obtain ⟨A1, c1, rfl, hl1, hC1⟩ := NewI_reads hn
    have HC1 := Aside0.mk hC1
    clear hn hC1
    go_wp2_with fail
    refine (specPageOk_calls a b A1 c1 l _ HC1.out hl1).mono ?_
    rintro e w3 ⟨rfl, hb⟩
    obtain ⟨hc3, hf3⟩ := bcell hb
    have hz3 := hb.size
    (try simp at hz3)
    have HB3 : Aside0 (Below w.heap.size w w3) := ⟨below_then (by repeat (first | (with_reducible exact HB2.out) | (with_reducible refine below_alloc ?_ _) | (with_reducible refine pw_below_drewN ?_ _) | (with_reducible refine below_drew ?_) | (refine below_set ?_ (by have := HZ2.out; omega)))) (by have := HZ2.out; first | (simp; done) | (simp; omega) | omega) hb⟩
    have HZ3 := Aside0.mk (HB3.out.size)
    have HT3 := Aside0.mk hb
    clear hb
    have hy3_0 : w.heap.size < w3.heap.size := (by omega)
    go_wp2_with fail
    refine (toPage_calls a b A c l _ (by repeat (first | (with_reducible exact HC.out) | (with_reducible refine CI_below ?_ HT3.out) | (with_reducible refine CI_below ?_ HT2.out) | (with_reducible refine CI_below ?_ HT1.out) | (with_reducible refine CI_alloc ?_ _) | (with_reducible refine CI_drewN ?_ _) | (with_reducible refine CI_drew ?_))) hc (by have := HS.out; omega)).mono ?_
    rintro e w4 ⟨v, rfl, hn, hb⟩
    obtain ⟨hc4, hf4⟩ := bcell hb
    have hz4 := hb.size
    (try simp at hz4)
    have HB4 : Aside0 (Below w.heap.size w w4) := ⟨below_then (by repeat (first | (with_reducible exact HB3.out) | (with_reducible refine below_alloc ?_ _) | (with_reducible refine pw_below_drewN ?_ _) | (with_reducible refine below_drew ?_) | (refine below_set ?_ (by have := HZ3.out; omega)))) (by have := HZ3.out; first | (simp; done) | (simp; omega) | omega) hb⟩
    have HZ4 := Aside0.mk (HB4.out.size)
    have HT4 := Aside0.mk hb
    clear hb
    have hy4_0 : w.heap.size < w4.heap.size := (by omega)
    obtain ⟨A2, c2, rfl, hl2, hC2⟩ := NewI_reads hn
    have HC2 := Aside0.mk hC2
    clear hn hC2
    go_wp2_with fail
    refine (implPageOk_calls a b A2 c2 l _ (by repeat (first | (with_reducible exact HC2.out) | (with_reducible refine CI_below ?_ HT4.out) | (with_reducible refine CI_below ?_ HT3.out) | (with_reducible refine CI_below ?_ HT2.out) | (with_reducible refine CI_below ?_ HT1.out) | (with_reducible refine CI_alloc ?_ _) | (with_reducible refine CI_drewN ?_ _) | (with_reducible refine CI_drew ?_))) hl2).mono ?_
    rintro e w5 ⟨rfl, hb⟩
    obtain ⟨hc5, hf5⟩ := bcell hb
    have hz5 := hb.size
    (try simp at hz5)
    have HB5 : Aside0 (Below w.heap.size w w5) := ⟨below_then (by repeat (first | (with_reducible exact HB4.out) | (with_reducible refine below_alloc ?_ _) | (with_reducible refine pw_below_drewN ?_ _) | (with_reducible refine below_drew ?_) | (refine below_set ?_ (by have := HZ4.out; omega)))) (by have := HZ4.out; first | (simp; done) | (simp; omega) | omega) hb⟩
    have HZ5 := Aside0.mk (HB5.out.size)
    have HT5 := Aside0.mk hb
    clear hb
    have hy5_0 : w.heap.size < w5.heap.size := (by omega)
    have hy5_1 : w4.heap.size < w5.heap.size := (by omega)
    go_wp2_with fail
    go_region_with (first | (go_at_call 34; refine (toPage_calls a b A c l _ (by repeat (first | (with_reducible exact HC.out) | (with_reducible refine CI_below ?_ HT5.out) | (with_reducible refine CI_below ?_ HT4.out) | (with_reducible refine CI_below ?_ HT3.out) | (with_reducible refine CI_below ?_ HT2.out) | (with_reducible refine CI_below ?_ HT1.out) | (with_reducible refine CI_alloc ?_ _) | (with_reducible refine CI_drewN ?_ _) | (with_reducible refine CI_drew ?_))) hc (by have := HS.out; omega)).mono ?_; rintro e w6 ⟨v, rfl, hn, hb⟩; replace hb : Below w5.heap.size w5 w6 := ⟨hb.os, hb.tape, hb.output, hb.size, hb.block⟩; obtain ⟨hc6, hf6⟩ := bcell hb; have hz6 := hb.size; (try simp at hz6); have HB6 : Aside0 (Below w.heap.size w w6) := ⟨below_then (by repeat (first | (with_reducible exact HB5.out) | (with_reducible refine below_alloc ?_ _) | (with_reducible refine pw_below_drewN ?_ _) | (with_reducible refine below_drew ?_) | (refine below_set ?_ (by have := HZ5.out; omega)))) (by have := HZ5.out; first | (simp; done) | (simp; omega) | omega) hb⟩; have HZ6 := Aside0.mk (HB6.out.size); have HT6 := Aside0.mk hb; clear hb; have hy6_0 : w.heap.size < w6.heap.size := (by omega); have hy6_1 : w4.heap.size < w6.heap.size := (by omega); obtain ⟨A3, c3, rfl, hl3, hC3⟩ := NewI_reads hn; have HC3 := Aside0.mk hC3; clear hn hC3) | (go_at_call 36; refine (eqPage_calls a b A2 c2 l a b A3 c3 l _ (by repeat (first | (with_reducible exact HC2.out) | (with_reducible refine CI_below ?_ HT6.out) | (with_reducible refine CI_below ?_ HT5.out) | (with_reducible refine CI_below ?_ HT4.out) | (with_reducible refine CI_below ?_ HT3.out) | (with_reducible refine CI_below ?_ HT2.out) | (with_reducible refine CI_below ?_ HT1.out) | (with_reducible refine CI_alloc ?_ _) | (with_reducible refine CI_drewN ?_ _) | (with_reducible refine CI_drew ?_))) hl2 (by repeat (first | (with_reducible exact HC3.out) | (with_reducible refine CI_below ?_ HT6.out) | (with_reducible refine CI_below ?_ HT5.out) | (with_reducible refine CI_below ?_ HT4.out) | (with_reducible refine CI_below ?_ HT3.out) | (with_reducible refine CI_below ?_ HT2.out) | (with_reducible refine CI_below ?_ HT1.out) | (with_reducible refine CI_alloc ?_ _) | (with_reducible refine CI_drewN ?_ _) | (with_reducible refine CI_drew ?_))) hl3).mono ?_; rintro e w7 ⟨rfl, hb⟩; obtain ⟨hc7, hf7⟩ := bcell hb; have hz7 := hb.size; (try simp at hz7); have HB7 : Aside0 (Below w.heap.size w w7) := ⟨below_then (by repeat (first | (with_reducible exact HB6.out) | (with_reducible refine below_alloc ?_ _) | (with_reducible refine pw_below_drewN ?_ _) | (with_reducible refine below_drew ?_) | (refine below_set ?_ (by have := HZ6.out; omega)))) (by have := HZ6.out; first | (simp; done) | (simp; omega) | omega) hb⟩; have HZ7 := Aside0.mk (HB7.out.size); have HT7 := Aside0.mk hb; clear hb; have hy7_0 : w.heap.size < w7.heap.size := (by omega); have hy7_1 : w4.heap.size < w7.heap.size := (by omega)))
    all_goals (go_wp2_with fail; go_ret; exact ⟨rfl, HB7.out⟩)
  · have hsz : szB l.length 1048576 = -1 := by unfold szB; rw [if_pos (by omega)]
    have HSZ := Aside0.mk hsz
    clear hsz hs
    have HB0 := Aside0.mk (Below.refl w.heap.size w)
    have HZ0 := Aside0.mk (Nat.le_refl w.heap.size)
    go_enter Try.func4, Try.ntmps4
    go_wp2_with fail
    refine (szPage_calls a b A c l 1048576 _ (by repeat (first | (with_reducible exact HC.out) | (with_reducible refine CI_alloc ?_ _) | (with_reducible refine CI_drewN ?_ _) | (with_reducible refine CI_drew ?_))) hc (by omega) (by omega)).mono ?_
    rintro e w1 ⟨rfl, hb⟩
    obtain ⟨hc1, hf1⟩ := bcell hb
    have hz1 := hb.size
    (try simp at hz1)
    have HB1 : Aside0 (Below w.heap.size w w1) := ⟨below_then (by repeat (first | (with_reducible exact HB0.out) | (with_reducible refine below_alloc ?_ _) | (with_reducible refine pw_below_drewN ?_ _) | (with_reducible refine below_drew ?_) | (refine below_set ?_ (by have := HZ0.out; omega)))) (by have := HZ0.out; first | (simp; done) | (simp; omega) | omega) hb⟩
    have HZ1 := Aside0.mk (HB1.out.size)
    have HT1 := Aside0.mk hb
    clear hb
    rw [HSZ.out]
    go_wp2_with fail
    go_ret
    exact ⟨rfl, HB1.out⟩
set_option maxHeartbeats 2000000 in
set_option maxRecDepth 100000 in
theorem FnExactPageEmpty_walk (a b : Int) (A : Option Addr) (c : Nat) (l : List Int) (w : World) (hc : l.length ≤ c) (hC : CI w A l) :
    Calls Try.prog 6 #[.agg #[.int .i64 a, .int .i64 b, .slice A l.length c]] w fun e w' => e = .returned (.bool true) ∧ Below w.heap.size w w' := by
  have HC := Aside0.mk hC
  clear hC
  by_cases hs : (l.length : Int) ≤ 1048576
  · have HS := Aside0.mk hs
    have hsz : szB l.length 1048576 = 1048576 - l.length := by unfold szB; rw [if_neg (by omega)]
    have HSZ := Aside0.mk hsz
    clear hsz
    have HB0 := Aside0.mk (Below.refl w.heap.size w)
    have HZ0 := Aside0.mk (Nat.le_refl w.heap.size)
    go_enter Try.func6, Try.ntmps6
    go_wp2_with fail
    refine (szPage_calls a b A c l 1048576 _ (by repeat (first | (with_reducible exact HC.out) | (with_reducible refine CI_alloc ?_ _) | (with_reducible refine CI_drewN ?_ _) | (with_reducible refine CI_drew ?_))) hc (by omega) (by omega)).mono ?_
    rintro e w1 ⟨rfl, hb⟩
    obtain ⟨hc1, hf1⟩ := bcell hb
    have hz1 := hb.size
    (try simp at hz1)
    have HB1 : Aside0 (Below w.heap.size w w1) := ⟨below_then (by repeat (first | (with_reducible exact HB0.out) | (with_reducible refine below_alloc ?_ _) | (with_reducible refine pw_below_drewN ?_ _) | (with_reducible refine below_drew ?_) | (refine below_set ?_ (by have := HZ0.out; omega)))) (by have := HZ0.out; first | (simp; done) | (simp; omega) | omega) hb⟩
    have HZ1 := Aside0.mk (HB1.out.size)
    have HT1 := Aside0.mk hb
    clear hb
    have hy1_0 : w.heap.size < w1.heap.size := (by omega)
    rw [HSZ.out]
    go_wp2_with fail
    refine (toPage_calls a b A c l _ (by repeat (first | (with_reducible exact HC.out) | (with_reducible refine CI_below ?_ HT1.out) | (with_reducible refine CI_alloc ?_ _) | (with_reducible refine CI_drewN ?_ _) | (with_reducible refine CI_drew ?_))) hc (by have := HS.out; omega)).mono ?_
    rintro e w2 ⟨v, rfl, hn, hb⟩
    obtain ⟨hc2, hf2⟩ := bcell hb
    have hz2 := hb.size
    (try simp at hz2)
    have HB2 : Aside0 (Below w.heap.size w w2) := ⟨below_then (by repeat (first | (with_reducible exact HB1.out) | (with_reducible refine below_alloc ?_ _) | (with_reducible refine pw_below_drewN ?_ _) | (with_reducible refine below_drew ?_) | (refine below_set ?_ (by have := HZ1.out; omega)))) (by have := HZ1.out; first | (simp; done) | (simp; omega) | omega) hb⟩
    have HZ2 := Aside0.mk (HB2.out.size)
    have HT2 := Aside0.mk hb
    clear hb
    have hy2_0 : w.heap.size < w2.heap.size := (by omega)
    obtain ⟨A1, c1, rfl, hl1, hC1⟩ := NewI_reads hn
    have HC1 := Aside0.mk hC1
    clear hn hC1
    go_wp2_with fail
    refine (specPageEmpty_calls a b A1 c1 l _ HC1.out hl1).mono ?_
    rintro e w3 ⟨rfl, hb⟩
    obtain ⟨hc3, hf3⟩ := bcell hb
    have hz3 := hb.size
    (try simp at hz3)
    have HB3 : Aside0 (Below w.heap.size w w3) := ⟨below_then (by repeat (first | (with_reducible exact HB2.out) | (with_reducible refine below_alloc ?_ _) | (with_reducible refine pw_below_drewN ?_ _) | (with_reducible refine below_drew ?_) | (refine below_set ?_ (by have := HZ2.out; omega)))) (by have := HZ2.out; first | (simp; done) | (simp; omega) | omega) hb⟩
    have HZ3 := Aside0.mk (HB3.out.size)
    have HT3 := Aside0.mk hb
    clear hb
    have hy3_0 : w.heap.size < w3.heap.size := (by omega)
    go_wp2_with fail
    refine (toPage_calls a b A c l _ (by repeat (first | (with_reducible exact HC.out) | (with_reducible refine CI_below ?_ HT3.out) | (with_reducible refine CI_below ?_ HT2.out) | (with_reducible refine CI_below ?_ HT1.out) | (with_reducible refine CI_alloc ?_ _) | (with_reducible refine CI_drewN ?_ _) | (with_reducible refine CI_drew ?_))) hc (by have := HS.out; omega)).mono ?_
    rintro e w4 ⟨v, rfl, hn, hb⟩
    obtain ⟨hc4, hf4⟩ := bcell hb
    have hz4 := hb.size
    (try simp at hz4)
    have HB4 : Aside0 (Below w.heap.size w w4) := ⟨below_then (by repeat (first | (with_reducible exact HB3.out) | (with_reducible refine below_alloc ?_ _) | (with_reducible refine pw_below_drewN ?_ _) | (with_reducible refine below_drew ?_) | (refine below_set ?_ (by have := HZ3.out; omega)))) (by have := HZ3.out; first | (simp; done) | (simp; omega) | omega) hb⟩
    have HZ4 := Aside0.mk (HB4.out.size)
    have HT4 := Aside0.mk hb
    clear hb
    have hy4_0 : w.heap.size < w4.heap.size := (by omega)
    obtain ⟨A2, c2, rfl, hl2, hC2⟩ := NewI_reads hn
    have HC2 := Aside0.mk hC2
    clear hn hC2
    go_wp2_with fail
    refine (implPageEmpty_calls a b A2 c2 l _ (by repeat (first | (with_reducible exact HC2.out) | (with_reducible refine CI_below ?_ HT4.out) | (with_reducible refine CI_below ?_ HT3.out) | (with_reducible refine CI_below ?_ HT2.out) | (with_reducible refine CI_below ?_ HT1.out) | (with_reducible refine CI_alloc ?_ _) | (with_reducible refine CI_drewN ?_ _) | (with_reducible refine CI_drew ?_))) hl2).mono ?_
    rintro e w5 ⟨rfl, hb⟩
    obtain ⟨hc5, hf5⟩ := bcell hb
    have hz5 := hb.size
    (try simp at hz5)
    have HB5 : Aside0 (Below w.heap.size w w5) := ⟨below_then (by repeat (first | (with_reducible exact HB4.out) | (with_reducible refine below_alloc ?_ _) | (with_reducible refine pw_below_drewN ?_ _) | (with_reducible refine below_drew ?_) | (refine below_set ?_ (by have := HZ4.out; omega)))) (by have := HZ4.out; first | (simp; done) | (simp; omega) | omega) hb⟩
    have HZ5 := Aside0.mk (HB5.out.size)
    have HT5 := Aside0.mk hb
    clear hb
    have hy5_0 : w.heap.size < w5.heap.size := (by omega)
    have hy5_1 : w4.heap.size < w5.heap.size := (by omega)
    go_wp2_with fail
    go_region_with (first | (go_at_call 34; refine (toPage_calls a b A c l _ (by repeat (first | (with_reducible exact HC.out) | (with_reducible refine CI_below ?_ HT5.out) | (with_reducible refine CI_below ?_ HT4.out) | (with_reducible refine CI_below ?_ HT3.out) | (with_reducible refine CI_below ?_ HT2.out) | (with_reducible refine CI_below ?_ HT1.out) | (with_reducible refine CI_alloc ?_ _) | (with_reducible refine CI_drewN ?_ _) | (with_reducible refine CI_drew ?_))) hc (by have := HS.out; omega)).mono ?_; rintro e w6 ⟨v, rfl, hn, hb⟩; replace hb : Below w5.heap.size w5 w6 := ⟨hb.os, hb.tape, hb.output, hb.size, hb.block⟩; obtain ⟨hc6, hf6⟩ := bcell hb; have hz6 := hb.size; (try simp at hz6); have HB6 : Aside0 (Below w.heap.size w w6) := ⟨below_then (by repeat (first | (with_reducible exact HB5.out) | (with_reducible refine below_alloc ?_ _) | (with_reducible refine pw_below_drewN ?_ _) | (with_reducible refine below_drew ?_) | (refine below_set ?_ (by have := HZ5.out; omega)))) (by have := HZ5.out; first | (simp; done) | (simp; omega) | omega) hb⟩; have HZ6 := Aside0.mk (HB6.out.size); have HT6 := Aside0.mk hb; clear hb; have hy6_0 : w.heap.size < w6.heap.size := (by omega); have hy6_1 : w4.heap.size < w6.heap.size := (by omega); obtain ⟨A3, c3, rfl, hl3, hC3⟩ := NewI_reads hn; have HC3 := Aside0.mk hC3; clear hn hC3) | (go_at_call 36; refine (eqPage_calls a b A2 c2 l a b A3 c3 l _ (by repeat (first | (with_reducible exact HC2.out) | (with_reducible refine CI_below ?_ HT6.out) | (with_reducible refine CI_below ?_ HT5.out) | (with_reducible refine CI_below ?_ HT4.out) | (with_reducible refine CI_below ?_ HT3.out) | (with_reducible refine CI_below ?_ HT2.out) | (with_reducible refine CI_below ?_ HT1.out) | (with_reducible refine CI_alloc ?_ _) | (with_reducible refine CI_drewN ?_ _) | (with_reducible refine CI_drew ?_))) hl2 (by repeat (first | (with_reducible exact HC3.out) | (with_reducible refine CI_below ?_ HT6.out) | (with_reducible refine CI_below ?_ HT5.out) | (with_reducible refine CI_below ?_ HT4.out) | (with_reducible refine CI_below ?_ HT3.out) | (with_reducible refine CI_below ?_ HT2.out) | (with_reducible refine CI_below ?_ HT1.out) | (with_reducible refine CI_alloc ?_ _) | (with_reducible refine CI_drewN ?_ _) | (with_reducible refine CI_drew ?_))) hl3).mono ?_; rintro e w7 ⟨rfl, hb⟩; obtain ⟨hc7, hf7⟩ := bcell hb; have hz7 := hb.size; (try simp at hz7); have HB7 : Aside0 (Below w.heap.size w w7) := ⟨below_then (by repeat (first | (with_reducible exact HB6.out) | (with_reducible refine below_alloc ?_ _) | (with_reducible refine pw_below_drewN ?_ _) | (with_reducible refine below_drew ?_) | (refine below_set ?_ (by have := HZ6.out; omega)))) (by have := HZ6.out; first | (simp; done) | (simp; omega) | omega) hb⟩; have HZ7 := Aside0.mk (HB7.out.size); have HT7 := Aside0.mk hb; clear hb; have hy7_0 : w.heap.size < w7.heap.size := (by omega); have hy7_1 : w4.heap.size < w7.heap.size := (by omega)))
    all_goals (go_wp2_with fail; go_ret; exact ⟨rfl, HB7.out⟩)
  · have hsz : szB l.length 1048576 = -1 := by unfold szB; rw [if_pos (by omega)]
    have HSZ := Aside0.mk hsz
    clear hsz hs
    have HB0 := Aside0.mk (Below.refl w.heap.size w)
    have HZ0 := Aside0.mk (Nat.le_refl w.heap.size)
    go_enter Try.func6, Try.ntmps6
    go_wp2_with fail
    refine (szPage_calls a b A c l 1048576 _ (by repeat (first | (with_reducible exact HC.out) | (with_reducible refine CI_alloc ?_ _) | (with_reducible refine CI_drewN ?_ _) | (with_reducible refine CI_drew ?_))) hc (by omega) (by omega)).mono ?_
    rintro e w1 ⟨rfl, hb⟩
    obtain ⟨hc1, hf1⟩ := bcell hb
    have hz1 := hb.size
    (try simp at hz1)
    have HB1 : Aside0 (Below w.heap.size w w1) := ⟨below_then (by repeat (first | (with_reducible exact HB0.out) | (with_reducible refine below_alloc ?_ _) | (with_reducible refine pw_below_drewN ?_ _) | (with_reducible refine below_drew ?_) | (refine below_set ?_ (by have := HZ0.out; omega)))) (by have := HZ0.out; first | (simp; done) | (simp; omega) | omega) hb⟩
    have HZ1 := Aside0.mk (HB1.out.size)
    have HT1 := Aside0.mk hb
    clear hb
    rw [HSZ.out]
    go_wp2_with fail
    go_ret
    exact ⟨rfl, HB1.out⟩
end Go.Proofs.Ytjicmjfnmdhahaa.T
