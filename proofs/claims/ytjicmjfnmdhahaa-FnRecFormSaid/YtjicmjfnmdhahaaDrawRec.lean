/- The drawing of a record. -/
import Derived.Test.YtjicmjfnmdhahaaRd
import Derived.Deep.DeepCutAuto
import Derived.Test.YtjicmjfnmdhahaaRec
namespace Go.Proofs.Ytjicmjfnmdhahaa.T
open Go.RowKit Go.Proofs.YtjicmjfnmdhahaaW.PrintWords Go.Proofs.Ytjicmjfnmdhahaa.Pr
set_option linter.unusedSimpArgs false
set_option linter.unusedVariables false

/-- A record whose numbers are small. -/
def Small (l : List Int) : Prop := ∀ x ∈ l, -3 ≤ x ∧ x ≤ 20
/-- A block of eight ints, that may be written. -/
def Box8 (W : World) (x : Nat) (a0 a1 a2 a3 a4 a5 a6 a7 : Int) : Prop :=
  (W.cell? ⟨x, 0, none⟩ = some (.int .i64 a0) ∧ W.cell? ⟨x, 1, none⟩ = some (.int .i64 a1) ∧ W.cell? ⟨x, 2, none⟩ = some (.int .i64 a2) ∧ W.cell? ⟨x, 3, none⟩ = some (.int .i64 a3) ∧
    W.cell? ⟨x, 4, none⟩ = some (.int .i64 a4) ∧ W.cell? ⟨x, 5, none⟩ = some (.int .i64 a5) ∧ W.cell? ⟨x, 6, none⟩ = some (.int .i64 a6) ∧ W.cell? ⟨x, 7, none⟩ = some (.int .i64 a7)) ∧
  (W.frozen? ⟨x, 0, none⟩ = false ∧ W.frozen? ⟨x, 1, none⟩ = false ∧ W.frozen? ⟨x, 2, none⟩ = false ∧ W.frozen? ⟨x, 3, none⟩ = false ∧ W.frozen? ⟨x, 4, none⟩ = false ∧ W.frozen? ⟨x, 5, none⟩ = false ∧ W.frozen? ⟨x, 6, none⟩ = false ∧ W.frozen? ⟨x, 7, none⟩ = false)
/-- What the drawing of a record leaves half way. -/
def RecCut (w0 w : World) (g : Nat) (b : List Int) (p : Int) (s3 : Value) (wx : World) : Prop := ∃ (xb : Nat) (a0 a1 a2 a3 a4 a5 a6 a7 p' : Int), s3 = .pointer (some ⟨xb, 0, none⟩) ∧ Box8 wx xb a0 a1 a2 a3 a4 a5 a6 a7 ∧
  Small [a0, a1, a2, a3, a4, a5, a6, a7] ∧ RD w0 wx g b p' ∧ p ≤ p' ∧ p' ≤ p + 7 ∧ Below w0.heap.size w0 wx ∧ KeepBut w wx g none ∧ w.heap.size < xb ∧ xb < wx.heap.size ∧ Box8 wx w.heap.size 0 0 0 0 0 0 0 0
set_option maxHeartbeats 8000000 in
set_option maxRecDepth 100000 in
theorem l71Rec_calls (g : Nat) (b : List Int) (p : Int) (w0 w : World) (hI : RD w0 w g b p) (hB : Below w0.heap.size w0 w) (hb : Bytes b) (hl : b.length ≤ 2000) (h0 : 0 ≤ p) (hp : p ≤ 1099511627000) :
    Calls Try.prog 95 #[.pointer (some ⟨g, 0, none⟩)] w fun e w' => ∃ a0 a1 a2 a3 a4 a5 a6 a7 p' : Int, e = .returned (.agg #[.int .i64 a0, .int .i64 a1, .int .i64 a2, .int .i64 a3, .int .i64 a4, .int .i64 a5, .int .i64 a6, .int .i64 a7]) ∧ Small [a0, a1, a2, a3, a4, a5, a6, a7] ∧ p ≤ p' ∧ p' ≤ p + 10 ∧
      RD w0 w' g b p' ∧ Below w0.heap.size w0 w' ∧ KeepBut w w' g none := by
  have hg : g < w.heap.size := IsS100.lt hI
  have HI0 := Aside0.mk hI
  have HB0 := Aside0.mk hB
  have HZ0 := Aside0.mk hB.size
  have HK0 := Aside0.mk (KeepBut.refl w g none)
  have hn0 : w.heap.size ≠ g := by omega
  clear hI hB
  go_enter Try.func95, Try.ntmps95
  go_wp2_with fail
  refine (pick_calls g b (p) 6 w0 _ (by repeat (first | (with_reducible exact HI0.out) | (with_reducible refine IsS100.alloc ?_ _) | (with_reducible refine IsS100.drewN ?_ _) | (with_reducible refine IsS100.drew ?_) | (refine IsS100.far ?_ (by first | assumption | (simp; omega) | omega) _))) (by repeat (first | (with_reducible exact HB0.out) | (with_reducible refine below_alloc ?_ _) | (with_reducible refine pw_below_drewN ?_ _) | (with_reducible refine below_drew ?_) | (refine below_set ?_ (by have := HZ0.out; first | omega | (simp; omega))))) hb hl (by omega) (by omega) (by omega)).mono ?_
  rintro e w1 ⟨r1, hl1, hr1, rfl, hI, hB, hK⟩
  have hz1 := hK.1
  (try simp at hz1)
  obtain ⟨hc1, hf1⟩ := kcell hK
  have HI1 := Aside0.mk hI
  have HB1 := Aside0.mk hB
  have HZ1 := Aside0.mk hB.size
  have HK1 : Aside0 (KeepBut w w1 g none) := ⟨KeepBut.trans (by repeat (first | (with_reducible exact HK0.out) | (with_reducible refine keep_alloc ?_ _) | (with_reducible refine keep_drewN ?_ _) | (with_reducible refine keep_drew ?_) | (refine keep_new ?_ (by first | (simp; done) | (simp; omega) | omega) _))) hK (.inl rfl)⟩
  clear hI hB hK
  have hy1_0 : w.heap.size < w1.heap.size := (by omega)
  go_wp2_with fail
  refine (pick_calls g b (p + 1) 3 w0 _ (by repeat (first | (with_reducible exact HI1.out) | (with_reducible refine IsS100.alloc ?_ _) | (with_reducible refine IsS100.drewN ?_ _) | (with_reducible refine IsS100.drew ?_) | (refine IsS100.far ?_ (by first | assumption | (simp; omega) | omega) _))) (by repeat (first | (with_reducible exact HB1.out) | (with_reducible refine below_alloc ?_ _) | (with_reducible refine pw_below_drewN ?_ _) | (with_reducible refine below_drew ?_) | (refine below_set ?_ (by have := HZ0.out; first | omega | (simp; omega))))) hb hl (by omega) (by omega) (by omega)).mono ?_
  rintro e w2 ⟨r2, hl2, hr2, rfl, hI, hB, hK⟩
  have hz2 := hK.1
  (try simp at hz2)
  obtain ⟨hc2, hf2⟩ := kcell hK
  have HI2 := Aside0.mk hI
  have HB2 := Aside0.mk hB
  have HZ2 := Aside0.mk hB.size
  have HK2 : Aside0 (KeepBut w w2 g none) := ⟨KeepBut.trans (by repeat (first | (with_reducible exact HK1.out) | (with_reducible refine keep_alloc ?_ _) | (with_reducible refine keep_drewN ?_ _) | (with_reducible refine keep_drew ?_) | (refine keep_new ?_ (by first | (simp; done) | (simp; omega) | omega) _))) hK (.inl rfl)⟩
  clear hI hB hK
  have hy2_0 : w.heap.size < w2.heap.size := (by omega)
  go_wp2_with fail
  refine (pick_calls g b (p + 1 + 1) 5 w0 _ (by repeat (first | (with_reducible exact HI2.out) | (with_reducible refine IsS100.alloc ?_ _) | (with_reducible refine IsS100.drewN ?_ _) | (with_reducible refine IsS100.drew ?_) | (refine IsS100.far ?_ (by first | assumption | (simp; omega) | omega) _))) (by repeat (first | (with_reducible exact HB2.out) | (with_reducible refine below_alloc ?_ _) | (with_reducible refine pw_below_drewN ?_ _) | (with_reducible refine below_drew ?_) | (refine below_set ?_ (by have := HZ0.out; first | omega | (simp; omega))))) hb hl (by omega) (by omega) (by omega)).mono ?_
  rintro e w3 ⟨r3, hl3, hr3, rfl, hI, hB, hK⟩
  have hz3 := hK.1
  (try simp at hz3)
  obtain ⟨hc3, hf3⟩ := kcell hK
  have HI3 := Aside0.mk hI
  have HB3 := Aside0.mk hB
  have HZ3 := Aside0.mk hB.size
  have HK3 : Aside0 (KeepBut w w3 g none) := ⟨KeepBut.trans (by repeat (first | (with_reducible exact HK2.out) | (with_reducible refine keep_alloc ?_ _) | (with_reducible refine keep_drewN ?_ _) | (with_reducible refine keep_drew ?_) | (refine keep_new ?_ (by first | (simp; done) | (simp; omega) | omega) _))) hK (.inl rfl)⟩
  clear hI hB hK
  have hy3_0 : w.heap.size < w3.heap.size := (by omega)
  have hn3 : w3.heap.size ≠ g := by omega
  go_upto_block 0 with fail
  go_cut [3] (fun s3 wx => RecCut w0 w g b p s3 wx)
  case first =>
    go_wp2_with fail
    · skip
      refine (pick_calls g b (p + 1 + 1 + 1) 5 w0 _ (by repeat (first | (with_reducible exact HI3.out) | (with_reducible refine IsS100.alloc ?_ _) | (with_reducible refine IsS100.drewN ?_ _) | (with_reducible refine IsS100.drew ?_) | (refine IsS100.far ?_ (by first | assumption | (simp; omega) | omega) _))) (by repeat (first | (with_reducible exact HB3.out) | (with_reducible refine below_alloc ?_ _) | (with_reducible refine pw_below_drewN ?_ _) | (with_reducible refine below_drew ?_) | (refine below_set ?_ (by have := HZ0.out; first | omega | (simp; omega))))) hb hl (by omega) (by omega) (by omega)).mono ?_
      rintro e w4 ⟨r4, hl4, hr4, rfl, hI, hB, hK⟩
      have hz4 := hK.1
      (try simp at hz4)
      obtain ⟨hc4, hf4⟩ := kcell hK
      have HI4 := Aside0.mk hI
      have HB4 := Aside0.mk hB
      have HZ4 := Aside0.mk hB.size
      have HK4 : Aside0 (KeepBut w w4 g none) := ⟨KeepBut.trans (by repeat (first | (with_reducible exact HK3.out) | (with_reducible refine keep_alloc ?_ _) | (with_reducible refine keep_drewN ?_ _) | (with_reducible refine keep_drew ?_) | (refine keep_new ?_ (by first | (simp; done) | (simp; omega) | omega) _))) hK (.inl rfl)⟩
      clear hI hB hK
      have hy4_0 : w.heap.size < w4.heap.size := (by omega)
      have hy4_1 : w3.heap.size < w4.heap.size := (by omega)
      go_wp2_with fail
      refine (pick_calls g b (p + 1 + 1 + 1 + 1) 3 w0 _ (by repeat (first | (with_reducible exact HI4.out) | (with_reducible refine IsS100.alloc ?_ _) | (with_reducible refine IsS100.drewN ?_ _) | (with_reducible refine IsS100.drew ?_) | (refine IsS100.far ?_ (by first | assumption | (simp; omega) | omega) _))) (by repeat (first | (with_reducible exact HB4.out) | (with_reducible refine below_alloc ?_ _) | (with_reducible refine pw_below_drewN ?_ _) | (with_reducible refine below_drew ?_) | (refine below_set ?_ (by have := HZ0.out; first | omega | (simp; omega))))) hb hl (by omega) (by omega) (by omega)).mono ?_
      rintro e w5 ⟨r5, hl5, hr5, rfl, hI, hB, hK⟩
      have hz5 := hK.1
      (try simp at hz5)
      obtain ⟨hc5, hf5⟩ := kcell hK
      have HI5 := Aside0.mk hI
      have HB5 := Aside0.mk hB
      have HZ5 := Aside0.mk hB.size
      have HK5 : Aside0 (KeepBut w w5 g none) := ⟨KeepBut.trans (by repeat (first | (with_reducible exact HK4.out) | (with_reducible refine keep_alloc ?_ _) | (with_reducible refine keep_drewN ?_ _) | (with_reducible refine keep_drew ?_) | (refine keep_new ?_ (by first | (simp; done) | (simp; omega) | omega) _))) hK (.inl rfl)⟩
      clear hI hB hK
      have hy5_0 : w.heap.size < w5.heap.size := (by omega)
      have hy5_1 : w3.heap.size < w5.heap.size := (by omega)
      go_wp2_with fail
      refine (pick_calls g b (p + 1 + 1 + 1 + 1 + 1) 10 w0 _ (by repeat (first | (with_reducible exact HI5.out) | (with_reducible refine IsS100.alloc ?_ _) | (with_reducible refine IsS100.drewN ?_ _) | (with_reducible refine IsS100.drew ?_) | (refine IsS100.far ?_ (by first | assumption | (simp; omega) | omega) _))) (by repeat (first | (with_reducible exact HB5.out) | (with_reducible refine below_alloc ?_ _) | (with_reducible refine pw_below_drewN ?_ _) | (with_reducible refine below_drew ?_) | (refine below_set ?_ (by have := HZ0.out; first | omega | (simp; omega))))) hb hl (by omega) (by omega) (by omega)).mono ?_
      rintro e w6 ⟨r6, hl6, hr6, rfl, hI, hB, hK⟩
      have hz6 := hK.1
      (try simp at hz6)
      obtain ⟨hc6, hf6⟩ := kcell hK
      have HI6 := Aside0.mk hI
      have HB6 := Aside0.mk hB
      have HZ6 := Aside0.mk hB.size
      have HK6 : Aside0 (KeepBut w w6 g none) := ⟨KeepBut.trans (by repeat (first | (with_reducible exact HK5.out) | (with_reducible refine keep_alloc ?_ _) | (with_reducible refine keep_drewN ?_ _) | (with_reducible refine keep_drew ?_) | (refine keep_new ?_ (by first | (simp; done) | (simp; omega) | omega) _))) hK (.inl rfl)⟩
      clear hI hB hK
      have hy6_0 : w.heap.size < w6.heap.size := (by omega)
      have hy6_1 : w3.heap.size < w6.heap.size := (by omega)
      go_wp2_with fail
      refine (pick_calls g b (p + 1 + 1 + 1 + 1 + 1 + 1) 10 w0 _ (by repeat (first | (with_reducible exact HI6.out) | (with_reducible refine IsS100.alloc ?_ _) | (with_reducible refine IsS100.drewN ?_ _) | (with_reducible refine IsS100.drew ?_) | (refine IsS100.far ?_ (by first | assumption | (simp; omega) | omega) _))) (by repeat (first | (with_reducible exact HB6.out) | (with_reducible refine below_alloc ?_ _) | (with_reducible refine pw_below_drewN ?_ _) | (with_reducible refine below_drew ?_) | (refine below_set ?_ (by have := HZ0.out; first | omega | (simp; omega))))) hb hl (by omega) (by omega) (by omega)).mono ?_
      rintro e w7 ⟨r7, hl7, hr7, rfl, hI, hB, hK⟩
      have hz7 := hK.1
      (try simp at hz7)
      obtain ⟨hc7, hf7⟩ := kcell hK
      have HI7 := Aside0.mk hI
      have HB7 := Aside0.mk hB
      have HZ7 := Aside0.mk hB.size
      have HK7 : Aside0 (KeepBut w w7 g none) := ⟨KeepBut.trans (by repeat (first | (with_reducible exact HK6.out) | (with_reducible refine keep_alloc ?_ _) | (with_reducible refine keep_drewN ?_ _) | (with_reducible refine keep_drew ?_) | (refine keep_new ?_ (by first | (simp; done) | (simp; omega) | omega) _))) hK (.inl rfl)⟩
      clear hI hB hK
      have hy7_0 : w.heap.size < w7.heap.size := (by omega)
      have hy7_1 : w3.heap.size < w7.heap.size := (by omega)
      go_wp2_with fail
      go_meet
      have hx1 : w.heap.size < w3.heap.size := hy3_0
      exact ⟨w3.heap.size, (1 + r1), (1 + r2), r4, r5, r6, r7, r3, 0, p + 1 + 1 + 1 + 1 + 1 + 1 + 1, rfl, by refine ⟨⟨?_, ?_, ?_, ?_, ?_, ?_, ?_, ?_⟩, ?_, ?_, ?_, ?_, ?_, ?_, ?_, ?_⟩ <;> go_simp, by simp [Small]; omega, by repeat (first | (with_reducible exact HI7.out) | (with_reducible refine IsS100.alloc ?_ _) | (with_reducible refine IsS100.drewN ?_ _) | (with_reducible refine IsS100.drew ?_) | (refine IsS100.far ?_ (by first | assumption | (simp; omega) | omega) _)), by omega, by omega, by repeat (first | (with_reducible exact HB7.out) | (with_reducible refine below_alloc ?_ _) | (with_reducible refine pw_below_drewN ?_ _) | (with_reducible refine below_drew ?_) | (refine below_set ?_ (by have := HZ0.out; first | omega | (simp; omega)))), by repeat (first | (with_reducible exact HK7.out) | (with_reducible refine keep_alloc ?_ _) | (with_reducible refine keep_drewN ?_ _) | (with_reducible refine keep_drew ?_) | (refine keep_new ?_ (by first | (simp; done) | (simp; omega) | omega) _)), hx1, by first | (simp; done) | (simp; omega), by refine ⟨⟨?_, ?_, ?_, ?_, ?_, ?_, ?_, ?_⟩, ?_, ?_, ?_, ?_, ?_, ?_, ?_, ?_⟩ <;> go_simp⟩
    · skip
      refine (pick_calls g b (p + 1 + 1 + 1) 5 w0 _ (by repeat (first | (with_reducible exact HI3.out) | (with_reducible refine IsS100.alloc ?_ _) | (with_reducible refine IsS100.drewN ?_ _) | (with_reducible refine IsS100.drew ?_) | (refine IsS100.far ?_ (by first | assumption | (simp; omega) | omega) _))) (by repeat (first | (with_reducible exact HB3.out) | (with_reducible refine below_alloc ?_ _) | (with_reducible refine pw_below_drewN ?_ _) | (with_reducible refine below_drew ?_) | (refine below_set ?_ (by have := HZ0.out; first | omega | (simp; omega))))) hb hl (by omega) (by omega) (by omega)).mono ?_
      rintro e w4 ⟨r4, hl4, hr4, rfl, hI, hB, hK⟩
      have hz4 := hK.1
      (try simp at hz4)
      obtain ⟨hc4, hf4⟩ := kcell hK
      have HI4 := Aside0.mk hI
      have HB4 := Aside0.mk hB
      have HZ4 := Aside0.mk hB.size
      have HK4 : Aside0 (KeepBut w w4 g none) := ⟨KeepBut.trans (by repeat (first | (with_reducible exact HK3.out) | (with_reducible refine keep_alloc ?_ _) | (with_reducible refine keep_drewN ?_ _) | (with_reducible refine keep_drew ?_) | (refine keep_new ?_ (by first | (simp; done) | (simp; omega) | omega) _))) hK (.inl rfl)⟩
      clear hI hB hK
      have hy4_0 : w.heap.size < w4.heap.size := (by omega)
      have hy4_1 : w3.heap.size < w4.heap.size := (by omega)
      go_wp2_with fail
      refine (pick_calls g b (p + 1 + 1 + 1 + 1) 4 w0 _ (by repeat (first | (with_reducible exact HI4.out) | (with_reducible refine IsS100.alloc ?_ _) | (with_reducible refine IsS100.drewN ?_ _) | (with_reducible refine IsS100.drew ?_) | (refine IsS100.far ?_ (by first | assumption | (simp; omega) | omega) _))) (by repeat (first | (with_reducible exact HB4.out) | (with_reducible refine below_alloc ?_ _) | (with_reducible refine pw_below_drewN ?_ _) | (with_reducible refine below_drew ?_) | (refine below_set ?_ (by have := HZ0.out; first | omega | (simp; omega))))) hb hl (by omega) (by omega) (by omega)).mono ?_
      rintro e w5 ⟨r5, hl5, hr5, rfl, hI, hB, hK⟩
      have hz5 := hK.1
      (try simp at hz5)
      obtain ⟨hc5, hf5⟩ := kcell hK
      have HI5 := Aside0.mk hI
      have HB5 := Aside0.mk hB
      have HZ5 := Aside0.mk hB.size
      have HK5 : Aside0 (KeepBut w w5 g none) := ⟨KeepBut.trans (by repeat (first | (with_reducible exact HK4.out) | (with_reducible refine keep_alloc ?_ _) | (with_reducible refine keep_drewN ?_ _) | (with_reducible refine keep_drew ?_) | (refine keep_new ?_ (by first | (simp; done) | (simp; omega) | omega) _))) hK (.inl rfl)⟩
      clear hI hB hK
      have hy5_0 : w.heap.size < w5.heap.size := (by omega)
      have hy5_1 : w3.heap.size < w5.heap.size := (by omega)
      go_wp2_with fail
      refine (pick_calls g b (p + 1 + 1 + 1 + 1 + 1) 4 w0 _ (by repeat (first | (with_reducible exact HI5.out) | (with_reducible refine IsS100.alloc ?_ _) | (with_reducible refine IsS100.drewN ?_ _) | (with_reducible refine IsS100.drew ?_) | (refine IsS100.far ?_ (by first | assumption | (simp; omega) | omega) _))) (by repeat (first | (with_reducible exact HB5.out) | (with_reducible refine below_alloc ?_ _) | (with_reducible refine pw_below_drewN ?_ _) | (with_reducible refine below_drew ?_) | (refine below_set ?_ (by have := HZ0.out; first | omega | (simp; omega))))) hb hl (by omega) (by omega) (by omega)).mono ?_
      rintro e w6 ⟨r6, hl6, hr6, rfl, hI, hB, hK⟩
      have hz6 := hK.1
      (try simp at hz6)
      obtain ⟨hc6, hf6⟩ := kcell hK
      have HI6 := Aside0.mk hI
      have HB6 := Aside0.mk hB
      have HZ6 := Aside0.mk hB.size
      have HK6 : Aside0 (KeepBut w w6 g none) := ⟨KeepBut.trans (by repeat (first | (with_reducible exact HK5.out) | (with_reducible refine keep_alloc ?_ _) | (with_reducible refine keep_drewN ?_ _) | (with_reducible refine keep_drew ?_) | (refine keep_new ?_ (by first | (simp; done) | (simp; omega) | omega) _))) hK (.inl rfl)⟩
      clear hI hB hK
      have hy6_0 : w.heap.size < w6.heap.size := (by omega)
      have hy6_1 : w3.heap.size < w6.heap.size := (by omega)
      go_wp2_with fail
      go_meet
      have hx1 : w.heap.size < w3.heap.size := hy3_0
      exact ⟨w3.heap.size, (1 + r1), (1 + r2), r4, (-1), r5, r6, r3, 0, p + 1 + 1 + 1 + 1 + 1 + 1, rfl, by refine ⟨⟨?_, ?_, ?_, ?_, ?_, ?_, ?_, ?_⟩, ?_, ?_, ?_, ?_, ?_, ?_, ?_, ?_⟩ <;> go_simp, by simp [Small]; omega, by repeat (first | (with_reducible exact HI6.out) | (with_reducible refine IsS100.alloc ?_ _) | (with_reducible refine IsS100.drewN ?_ _) | (with_reducible refine IsS100.drew ?_) | (refine IsS100.far ?_ (by first | assumption | (simp; omega) | omega) _)), by omega, by omega, by repeat (first | (with_reducible exact HB6.out) | (with_reducible refine below_alloc ?_ _) | (with_reducible refine pw_below_drewN ?_ _) | (with_reducible refine below_drew ?_) | (refine below_set ?_ (by have := HZ0.out; first | omega | (simp; omega)))), by repeat (first | (with_reducible exact HK6.out) | (with_reducible refine keep_alloc ?_ _) | (with_reducible refine keep_drewN ?_ _) | (with_reducible refine keep_drew ?_) | (refine keep_new ?_ (by first | (simp; done) | (simp; omega) | omega) _)), hx1, by first | (simp; done) | (simp; omega), by refine ⟨⟨?_, ?_, ?_, ?_, ?_, ?_, ?_, ?_⟩, ?_, ?_, ?_, ?_, ?_, ?_, ?_, ?_⟩ <;> go_simp⟩
    · skip
      refine (pick_calls g b (p + 1 + 1 + 1) 5 w0 _ (by repeat (first | (with_reducible exact HI3.out) | (with_reducible refine IsS100.alloc ?_ _) | (with_reducible refine IsS100.drewN ?_ _) | (with_reducible refine IsS100.drew ?_) | (refine IsS100.far ?_ (by first | assumption | (simp; omega) | omega) _))) (by repeat (first | (with_reducible exact HB3.out) | (with_reducible refine below_alloc ?_ _) | (with_reducible refine pw_below_drewN ?_ _) | (with_reducible refine below_drew ?_) | (refine below_set ?_ (by have := HZ0.out; first | omega | (simp; omega))))) hb hl (by omega) (by omega) (by omega)).mono ?_
      rintro e w4 ⟨r4, hl4, hr4, rfl, hI, hB, hK⟩
      have hz4 := hK.1
      (try simp at hz4)
      obtain ⟨hc4, hf4⟩ := kcell hK
      have HI4 := Aside0.mk hI
      have HB4 := Aside0.mk hB
      have HZ4 := Aside0.mk hB.size
      have HK4 : Aside0 (KeepBut w w4 g none) := ⟨KeepBut.trans (by repeat (first | (with_reducible exact HK3.out) | (with_reducible refine keep_alloc ?_ _) | (with_reducible refine keep_drewN ?_ _) | (with_reducible refine keep_drew ?_) | (refine keep_new ?_ (by first | (simp; done) | (simp; omega) | omega) _))) hK (.inl rfl)⟩
      clear hI hB hK
      have hy4_0 : w.heap.size < w4.heap.size := (by omega)
      have hy4_1 : w3.heap.size < w4.heap.size := (by omega)
      go_wp2_with fail
      refine (pick_calls g b (p + 1 + 1 + 1 + 1) 4 w0 _ (by repeat (first | (with_reducible exact HI4.out) | (with_reducible refine IsS100.alloc ?_ _) | (with_reducible refine IsS100.drewN ?_ _) | (with_reducible refine IsS100.drew ?_) | (refine IsS100.far ?_ (by first | assumption | (simp; omega) | omega) _))) (by repeat (first | (with_reducible exact HB4.out) | (with_reducible refine below_alloc ?_ _) | (with_reducible refine pw_below_drewN ?_ _) | (with_reducible refine below_drew ?_) | (refine below_set ?_ (by have := HZ0.out; first | omega | (simp; omega))))) hb hl (by omega) (by omega) (by omega)).mono ?_
      rintro e w5 ⟨r5, hl5, hr5, rfl, hI, hB, hK⟩
      have hz5 := hK.1
      (try simp at hz5)
      obtain ⟨hc5, hf5⟩ := kcell hK
      have HI5 := Aside0.mk hI
      have HB5 := Aside0.mk hB
      have HZ5 := Aside0.mk hB.size
      have HK5 : Aside0 (KeepBut w w5 g none) := ⟨KeepBut.trans (by repeat (first | (with_reducible exact HK4.out) | (with_reducible refine keep_alloc ?_ _) | (with_reducible refine keep_drewN ?_ _) | (with_reducible refine keep_drew ?_) | (refine keep_new ?_ (by first | (simp; done) | (simp; omega) | omega) _))) hK (.inl rfl)⟩
      clear hI hB hK
      have hy5_0 : w.heap.size < w5.heap.size := (by omega)
      have hy5_1 : w3.heap.size < w5.heap.size := (by omega)
      go_wp2_with fail
      refine (pick_calls g b (p + 1 + 1 + 1 + 1 + 1) 4 w0 _ (by repeat (first | (with_reducible exact HI5.out) | (with_reducible refine IsS100.alloc ?_ _) | (with_reducible refine IsS100.drewN ?_ _) | (with_reducible refine IsS100.drew ?_) | (refine IsS100.far ?_ (by first | assumption | (simp; omega) | omega) _))) (by repeat (first | (with_reducible exact HB5.out) | (with_reducible refine below_alloc ?_ _) | (with_reducible refine pw_below_drewN ?_ _) | (with_reducible refine below_drew ?_) | (refine below_set ?_ (by have := HZ0.out; first | omega | (simp; omega))))) hb hl (by omega) (by omega) (by omega)).mono ?_
      rintro e w6 ⟨r6, hl6, hr6, rfl, hI, hB, hK⟩
      have hz6 := hK.1
      (try simp at hz6)
      obtain ⟨hc6, hf6⟩ := kcell hK
      have HI6 := Aside0.mk hI
      have HB6 := Aside0.mk hB
      have HZ6 := Aside0.mk hB.size
      have HK6 : Aside0 (KeepBut w w6 g none) := ⟨KeepBut.trans (by repeat (first | (with_reducible exact HK5.out) | (with_reducible refine keep_alloc ?_ _) | (with_reducible refine keep_drewN ?_ _) | (with_reducible refine keep_drew ?_) | (refine keep_new ?_ (by first | (simp; done) | (simp; omega) | omega) _))) hK (.inl rfl)⟩
      clear hI hB hK
      have hy6_0 : w.heap.size < w6.heap.size := (by omega)
      have hy6_1 : w3.heap.size < w6.heap.size := (by omega)
      go_wp2_with fail
      refine (pick_calls g b (p + 1 + 1 + 1 + 1 + 1 + 1) 4 w0 _ (by repeat (first | (with_reducible exact HI6.out) | (with_reducible refine IsS100.alloc ?_ _) | (with_reducible refine IsS100.drewN ?_ _) | (with_reducible refine IsS100.drew ?_) | (refine IsS100.far ?_ (by first | assumption | (simp; omega) | omega) _))) (by repeat (first | (with_reducible exact HB6.out) | (with_reducible refine below_alloc ?_ _) | (with_reducible refine pw_below_drewN ?_ _) | (with_reducible refine below_drew ?_) | (refine below_set ?_ (by have := HZ0.out; first | omega | (simp; omega))))) hb hl (by omega) (by omega) (by omega)).mono ?_
      rintro e w7 ⟨r7, hl7, hr7, rfl, hI, hB, hK⟩
      have hz7 := hK.1
      (try simp at hz7)
      obtain ⟨hc7, hf7⟩ := kcell hK
      have HI7 := Aside0.mk hI
      have HB7 := Aside0.mk hB
      have HZ7 := Aside0.mk hB.size
      have HK7 : Aside0 (KeepBut w w7 g none) := ⟨KeepBut.trans (by repeat (first | (with_reducible exact HK6.out) | (with_reducible refine keep_alloc ?_ _) | (with_reducible refine keep_drewN ?_ _) | (with_reducible refine keep_drew ?_) | (refine keep_new ?_ (by first | (simp; done) | (simp; omega) | omega) _))) hK (.inl rfl)⟩
      clear hI hB hK
      have hy7_0 : w.heap.size < w7.heap.size := (by omega)
      have hy7_1 : w3.heap.size < w7.heap.size := (by omega)
      go_wp2_with fail
      go_meet
      have hx1 : w.heap.size < w3.heap.size := hy3_0
      exact ⟨w3.heap.size, (1 + r1), (1 + r2), r4, (r5 - 1), 0, r6, r3, r7, p + 1 + 1 + 1 + 1 + 1 + 1 + 1, rfl, by refine ⟨⟨?_, ?_, ?_, ?_, ?_, ?_, ?_, ?_⟩, ?_, ?_, ?_, ?_, ?_, ?_, ?_, ?_⟩ <;> go_simp, by simp [Small]; omega, by repeat (first | (with_reducible exact HI7.out) | (with_reducible refine IsS100.alloc ?_ _) | (with_reducible refine IsS100.drewN ?_ _) | (with_reducible refine IsS100.drew ?_) | (refine IsS100.far ?_ (by first | assumption | (simp; omega) | omega) _)), by omega, by omega, by repeat (first | (with_reducible exact HB7.out) | (with_reducible refine below_alloc ?_ _) | (with_reducible refine pw_below_drewN ?_ _) | (with_reducible refine below_drew ?_) | (refine below_set ?_ (by have := HZ0.out; first | omega | (simp; omega)))), by repeat (first | (with_reducible exact HK7.out) | (with_reducible refine keep_alloc ?_ _) | (with_reducible refine keep_drewN ?_ _) | (with_reducible refine keep_drew ?_) | (refine keep_new ?_ (by first | (simp; done) | (simp; omega) | omega) _)), hx1, by first | (simp; done) | (simp; omega), by refine ⟨⟨?_, ?_, ?_, ?_, ?_, ?_, ?_, ?_⟩, ?_, ?_, ?_, ?_, ?_, ?_, ?_, ?_⟩ <;> go_simp⟩
    · skip
      refine (pick_calls g b (p + 1 + 1 + 1) 5 w0 _ (by repeat (first | (with_reducible exact HI3.out) | (with_reducible refine IsS100.alloc ?_ _) | (with_reducible refine IsS100.drewN ?_ _) | (with_reducible refine IsS100.drew ?_) | (refine IsS100.far ?_ (by first | assumption | (simp; omega) | omega) _))) (by repeat (first | (with_reducible exact HB3.out) | (with_reducible refine below_alloc ?_ _) | (with_reducible refine pw_below_drewN ?_ _) | (with_reducible refine below_drew ?_) | (refine below_set ?_ (by have := HZ0.out; first | omega | (simp; omega))))) hb hl (by omega) (by omega) (by omega)).mono ?_
      rintro e w4 ⟨r4, hl4, hr4, rfl, hI, hB, hK⟩
      have hz4 := hK.1
      (try simp at hz4)
      obtain ⟨hc4, hf4⟩ := kcell hK
      have HI4 := Aside0.mk hI
      have HB4 := Aside0.mk hB
      have HZ4 := Aside0.mk hB.size
      have HK4 : Aside0 (KeepBut w w4 g none) := ⟨KeepBut.trans (by repeat (first | (with_reducible exact HK3.out) | (with_reducible refine keep_alloc ?_ _) | (with_reducible refine keep_drewN ?_ _) | (with_reducible refine keep_drew ?_) | (refine keep_new ?_ (by first | (simp; done) | (simp; omega) | omega) _))) hK (.inl rfl)⟩
      clear hI hB hK
      have hy4_0 : w.heap.size < w4.heap.size := (by omega)
      have hy4_1 : w3.heap.size < w4.heap.size := (by omega)
      go_wp2_with fail
      go_meet
      have hx1 : w.heap.size < w3.heap.size := hy3_0
      exact ⟨w3.heap.size, (1 + r1), (1 + r2), r4, 0, 0, 0, r3, 0, p + 1 + 1 + 1 + 1, rfl, by refine ⟨⟨?_, ?_, ?_, ?_, ?_, ?_, ?_, ?_⟩, ?_, ?_, ?_, ?_, ?_, ?_, ?_, ?_⟩ <;> go_simp, by simp [Small]; omega, by repeat (first | (with_reducible exact HI4.out) | (with_reducible refine IsS100.alloc ?_ _) | (with_reducible refine IsS100.drewN ?_ _) | (with_reducible refine IsS100.drew ?_) | (refine IsS100.far ?_ (by first | assumption | (simp; omega) | omega) _)), by omega, by omega, by repeat (first | (with_reducible exact HB4.out) | (with_reducible refine below_alloc ?_ _) | (with_reducible refine pw_below_drewN ?_ _) | (with_reducible refine below_drew ?_) | (refine below_set ?_ (by have := HZ0.out; first | omega | (simp; omega)))), by repeat (first | (with_reducible exact HK4.out) | (with_reducible refine keep_alloc ?_ _) | (with_reducible refine keep_drewN ?_ _) | (with_reducible refine keep_drew ?_) | (refine keep_new ?_ (by first | (simp; done) | (simp; omega) | omega) _)), hx1, by first | (simp; done) | (simp; omega), by refine ⟨⟨?_, ?_, ?_, ?_, ?_, ?_, ?_, ?_⟩, ?_, ?_, ?_, ?_, ?_, ?_, ?_, ?_⟩ <;> go_simp⟩
    · go_meet
      have hx1 : w.heap.size < w3.heap.size := hy3_0
      exact ⟨w3.heap.size, (1 + r1), (1 + r2), 0, 0, 0, 0, r3, 0, p + 1 + 1 + 1, rfl, by refine ⟨⟨?_, ?_, ?_, ?_, ?_, ?_, ?_, ?_⟩, ?_, ?_, ?_, ?_, ?_, ?_, ?_, ?_⟩ <;> go_simp, by simp [Small]; omega, by repeat (first | (with_reducible exact HI3.out) | (with_reducible refine IsS100.alloc ?_ _) | (with_reducible refine IsS100.drewN ?_ _) | (with_reducible refine IsS100.drew ?_) | (refine IsS100.far ?_ (by first | assumption | (simp; omega) | omega) _)), by omega, by omega, by repeat (first | (with_reducible exact HB3.out) | (with_reducible refine below_alloc ?_ _) | (with_reducible refine pw_below_drewN ?_ _) | (with_reducible refine below_drew ?_) | (refine below_set ?_ (by have := HZ0.out; first | omega | (simp; omega)))), by repeat (first | (with_reducible exact HK3.out) | (with_reducible refine keep_alloc ?_ _) | (with_reducible refine keep_drewN ?_ _) | (with_reducible refine keep_drew ?_) | (refine keep_new ?_ (by first | (simp; done) | (simp; omega) | omega) _)), hx1, by first | (simp; done) | (simp; omega), by refine ⟨⟨?_, ?_, ?_, ?_, ?_, ?_, ?_, ?_⟩, ?_, ?_, ?_, ?_, ?_, ?_, ?_, ?_⟩ <;> go_simp⟩
  case rest =>
    obtain ⟨xb, a0, a1, a2, a3, a4, a5, a6, a7, p3, rfl, ⟨⟨x0, x1, x2, x3, x4, x5, x6, x7⟩, z0, z1, z2, z3, z4, z5, z6, z7⟩, hS, hI, hp1, hp2, hB, hK, hxb, hxl, ⟨u0, u1, u2, u3, u4, u5, u6, u7⟩, v0, v1, v2, v3, v4, v5, v6, v7⟩ := hcut
    have HS := Aside0.mk hS
    have HI9 := Aside0.mk hI
    have HB9 := Aside0.mk hB
    have HZ9 := Aside0.mk hB.size
    have HK9 := Aside0.mk hK
    have hz9 := hK.1
    have hxg : xb ≠ g := by omega
    have hwl : w.heap.size < wc.heap.size := by omega
    have b0 : -3 ≤ a0 ∧ a0 ≤ 20 := hS _ (by simp)
    have b1 : -3 ≤ a1 ∧ a1 ≤ 20 := hS _ (by simp)
    have b2 : -3 ≤ a2 ∧ a2 ≤ 20 := hS _ (by simp)
    have b3 : -3 ≤ a3 ∧ a3 ≤ 20 := hS _ (by simp)
    have b4 : -3 ≤ a4 ∧ a4 ≤ 20 := hS _ (by simp)
    have b5 : -3 ≤ a5 ∧ a5 ≤ 20 := hS _ (by simp)
    have b6 : -3 ≤ a6 ∧ a6 ≤ 20 := hS _ (by simp)
    have b7 : -3 ≤ a7 ∧ a7 ≤ 20 := hS _ (by simp)
    clear hS hI hB hK
    go_wp2_with fail
    refine (pick_calls g b (p3) 24 w0 _ (by repeat (first | (with_reducible exact HI9.out) | (with_reducible refine IsS100.alloc ?_ _) | (with_reducible refine IsS100.drewN ?_ _) | (with_reducible refine IsS100.drew ?_) | (refine IsS100.far ?_ (by first | assumption | (simp; omega) | omega) _))) (by repeat (first | (with_reducible exact HB9.out) | (with_reducible refine below_alloc ?_ _) | (with_reducible refine pw_below_drewN ?_ _) | (with_reducible refine below_drew ?_) | (refine below_set ?_ (by have := HZ0.out; first | omega | (simp; omega))))) hb hl (by omega) (by omega) (by omega)).mono ?_
    rintro e w10 ⟨r10, hl10, hr10, rfl, hI, hB, hK⟩
    have hz10 := hK.1
    (try simp at hz10)
    obtain ⟨hc10, hf10⟩ := kcell hK
    have HI10 := Aside0.mk hI
    have HB10 := Aside0.mk hB
    have HZ10 := Aside0.mk hB.size
    have HK10 : Aside0 (KeepBut w w10 g none) := ⟨KeepBut.trans (by repeat (first | (with_reducible exact HK9.out) | (with_reducible refine keep_alloc ?_ _) | (with_reducible refine keep_drewN ?_ _) | (with_reducible refine keep_drew ?_) | (refine keep_new ?_ (by first | (simp; done) | (simp; omega) | omega) _))) hK (.inl rfl)⟩
    clear hI hB hK
    have hy10_0 : w.heap.size < w10.heap.size := (by omega)
    have hy10_1 : xb < w10.heap.size := (by omega)
    go_wp2_with fail
    · skip
      refine (pick_calls g b (p3 + 1) 6 w0 _ (by repeat (first | (with_reducible exact HI10.out) | (with_reducible refine IsS100.alloc ?_ _) | (with_reducible refine IsS100.drewN ?_ _) | (with_reducible refine IsS100.drew ?_) | (refine IsS100.far ?_ (by first | assumption | (simp; omega) | omega) _))) (by repeat (first | (with_reducible exact HB10.out) | (with_reducible refine below_alloc ?_ _) | (with_reducible refine pw_below_drewN ?_ _) | (with_reducible refine below_drew ?_) | (refine below_set ?_ (by have := HZ0.out; first | omega | (simp; omega))))) hb hl (by omega) (by omega) (by omega)).mono ?_
      rintro e w11 ⟨r11, hl11, hr11, rfl, hI, hB, hK⟩
      have hz11 := hK.1
      (try simp at hz11)
      obtain ⟨hc11, hf11⟩ := kcell hK
      have HI11 := Aside0.mk hI
      have HB11 := Aside0.mk hB
      have HZ11 := Aside0.mk hB.size
      have HK11 : Aside0 (KeepBut w w11 g none) := ⟨KeepBut.trans (by repeat (first | (with_reducible exact HK10.out) | (with_reducible refine keep_alloc ?_ _) | (with_reducible refine keep_drewN ?_ _) | (with_reducible refine keep_drew ?_) | (refine keep_new ?_ (by first | (simp; done) | (simp; omega) | omega) _))) hK (.inl rfl)⟩
      clear hI hB hK
      have hy11_0 : w.heap.size < w11.heap.size := (by omega)
      have hy11_1 : xb < w11.heap.size := (by omega)
      go_wp2_with fail
      refine bodyPost_ret (v := .agg #[.int .i64 a0, .int .i64 (r11 - 1), .int .i64 a2, .int .i64 a3, .int .i64 a4, .int .i64 a5, .int .i64 a6, .int .i64 a7]) (by simp [results, Try.results95, go_sem, *]) rfl ⟨a0, (r11 - 1), a2, a3, a4, a5, a6, a7, p3 + 1 + 1, rfl, by simp [Small]; omega, by omega, by omega, by repeat (first | (with_reducible exact HI11.out) | (with_reducible refine IsS100.alloc ?_ _) | (with_reducible refine IsS100.drewN ?_ _) | (with_reducible refine IsS100.drew ?_) | (refine IsS100.far ?_ (by first | assumption | (simp; omega) | omega) _)), by repeat (first | (with_reducible exact HB11.out) | (with_reducible refine below_alloc ?_ _) | (with_reducible refine pw_below_drewN ?_ _) | (with_reducible refine below_drew ?_) | (refine below_set ?_ (by have := HZ0.out; first | omega | (simp; omega)))), by repeat (first | (with_reducible exact HK11.out) | (with_reducible refine keep_alloc ?_ _) | (with_reducible refine keep_drewN ?_ _) | (with_reducible refine keep_drew ?_) | (refine keep_new ?_ (by first | (simp; done) | (simp; omega) | omega) _))⟩
    · skip
      refine (pick_calls g b (p3 + 1) 6 w0 _ (by repeat (first | (with_reducible exact HI10.out) | (with_reducible refine IsS100.alloc ?_ _) | (with_reducible refine IsS100.drewN ?_ _) | (with_reducible refine IsS100.drew ?_) | (refine IsS100.far ?_ (by first | assumption | (simp; omega) | omega) _))) (by repeat (first | (with_reducible exact HB10.out) | (with_reducible refine below_alloc ?_ _) | (with_reducible refine pw_below_drewN ?_ _) | (with_reducible refine below_drew ?_) | (refine below_set ?_ (by have := HZ0.out; first | omega | (simp; omega))))) hb hl (by omega) (by omega) (by omega)).mono ?_
      rintro e w11 ⟨r11, hl11, hr11, rfl, hI, hB, hK⟩
      have hz11 := hK.1
      (try simp at hz11)
      obtain ⟨hc11, hf11⟩ := kcell hK
      have HI11 := Aside0.mk hI
      have HB11 := Aside0.mk hB
      have HZ11 := Aside0.mk hB.size
      have HK11 : Aside0 (KeepBut w w11 g none) := ⟨KeepBut.trans (by repeat (first | (with_reducible exact HK10.out) | (with_reducible refine keep_alloc ?_ _) | (with_reducible refine keep_drewN ?_ _) | (with_reducible refine keep_drew ?_) | (refine keep_new ?_ (by first | (simp; done) | (simp; omega) | omega) _))) hK (.inl rfl)⟩
      clear hI hB hK
      have hy11_0 : w.heap.size < w11.heap.size := (by omega)
      have hy11_1 : xb < w11.heap.size := (by omega)
      go_wp2_with fail
      refine bodyPost_ret (v := .agg #[.int .i64 a0, .int .i64 a1, .int .i64 a2, .int .i64 (r11 - 2), .int .i64 a4, .int .i64 a5, .int .i64 a6, .int .i64 a7]) (by simp [results, Try.results95, go_sem, *]) rfl ⟨a0, a1, a2, (r11 - 2), a4, a5, a6, a7, p3 + 1 + 1, rfl, by simp [Small]; omega, by omega, by omega, by repeat (first | (with_reducible exact HI11.out) | (with_reducible refine IsS100.alloc ?_ _) | (with_reducible refine IsS100.drewN ?_ _) | (with_reducible refine IsS100.drew ?_) | (refine IsS100.far ?_ (by first | assumption | (simp; omega) | omega) _)), by repeat (first | (with_reducible exact HB11.out) | (with_reducible refine below_alloc ?_ _) | (with_reducible refine pw_below_drewN ?_ _) | (with_reducible refine below_drew ?_) | (refine below_set ?_ (by have := HZ0.out; first | omega | (simp; omega)))), by repeat (first | (with_reducible exact HK11.out) | (with_reducible refine keep_alloc ?_ _) | (with_reducible refine keep_drewN ?_ _) | (with_reducible refine keep_drew ?_) | (refine keep_new ?_ (by first | (simp; done) | (simp; omega) | omega) _))⟩
    · skip
      refine (pick_calls g b (p3 + 1) 13 w0 _ (by repeat (first | (with_reducible exact HI10.out) | (with_reducible refine IsS100.alloc ?_ _) | (with_reducible refine IsS100.drewN ?_ _) | (with_reducible refine IsS100.drew ?_) | (refine IsS100.far ?_ (by first | assumption | (simp; omega) | omega) _))) (by repeat (first | (with_reducible exact HB10.out) | (with_reducible refine below_alloc ?_ _) | (with_reducible refine pw_below_drewN ?_ _) | (with_reducible refine below_drew ?_) | (refine below_set ?_ (by have := HZ0.out; first | omega | (simp; omega))))) hb hl (by omega) (by omega) (by omega)).mono ?_
      rintro e w11 ⟨r11, hl11, hr11, rfl, hI, hB, hK⟩
      have hz11 := hK.1
      (try simp at hz11)
      obtain ⟨hc11, hf11⟩ := kcell hK
      have HI11 := Aside0.mk hI
      have HB11 := Aside0.mk hB
      have HZ11 := Aside0.mk hB.size
      have HK11 : Aside0 (KeepBut w w11 g none) := ⟨KeepBut.trans (by repeat (first | (with_reducible exact HK10.out) | (with_reducible refine keep_alloc ?_ _) | (with_reducible refine keep_drewN ?_ _) | (with_reducible refine keep_drew ?_) | (refine keep_new ?_ (by first | (simp; done) | (simp; omega) | omega) _))) hK (.inl rfl)⟩
      clear hI hB hK
      have hy11_0 : w.heap.size < w11.heap.size := (by omega)
      have hy11_1 : xb < w11.heap.size := (by omega)
      go_wp2_with fail
      refine bodyPost_ret (v := .agg #[.int .i64 a0, .int .i64 a1, .int .i64 a2, .int .i64 a3, .int .i64 a4, .int .i64 (r11 - 1), .int .i64 a6, .int .i64 a7]) (by simp [results, Try.results95, go_sem, *]) rfl ⟨a0, a1, a2, a3, a4, (r11 - 1), a6, a7, p3 + 1 + 1, rfl, by simp [Small]; omega, by omega, by omega, by repeat (first | (with_reducible exact HI11.out) | (with_reducible refine IsS100.alloc ?_ _) | (with_reducible refine IsS100.drewN ?_ _) | (with_reducible refine IsS100.drew ?_) | (refine IsS100.far ?_ (by first | assumption | (simp; omega) | omega) _)), by repeat (first | (with_reducible exact HB11.out) | (with_reducible refine below_alloc ?_ _) | (with_reducible refine pw_below_drewN ?_ _) | (with_reducible refine below_drew ?_) | (refine below_set ?_ (by have := HZ0.out; first | omega | (simp; omega)))), by repeat (first | (with_reducible exact HK11.out) | (with_reducible refine keep_alloc ?_ _) | (with_reducible refine keep_drewN ?_ _) | (with_reducible refine keep_drew ?_) | (refine keep_new ?_ (by first | (simp; done) | (simp; omega) | omega) _))⟩
    · skip
      refine (pick_calls g b (p3 + 1) 3 w0 _ (by repeat (first | (with_reducible exact HI10.out) | (with_reducible refine IsS100.alloc ?_ _) | (with_reducible refine IsS100.drewN ?_ _) | (with_reducible refine IsS100.drew ?_) | (refine IsS100.far ?_ (by first | assumption | (simp; omega) | omega) _))) (by repeat (first | (with_reducible exact HB10.out) | (with_reducible refine below_alloc ?_ _) | (with_reducible refine pw_below_drewN ?_ _) | (with_reducible refine below_drew ?_) | (refine below_set ?_ (by have := HZ0.out; first | omega | (simp; omega))))) hb hl (by omega) (by omega) (by omega)).mono ?_
      rintro e w11 ⟨r11, hl11, hr11, rfl, hI, hB, hK⟩
      have hz11 := hK.1
      (try simp at hz11)
      obtain ⟨hc11, hf11⟩ := kcell hK
      have HI11 := Aside0.mk hI
      have HB11 := Aside0.mk hB
      have HZ11 := Aside0.mk hB.size
      have HK11 : Aside0 (KeepBut w w11 g none) := ⟨KeepBut.trans (by repeat (first | (with_reducible exact HK10.out) | (with_reducible refine keep_alloc ?_ _) | (with_reducible refine keep_drewN ?_ _) | (with_reducible refine keep_drew ?_) | (refine keep_new ?_ (by first | (simp; done) | (simp; omega) | omega) _))) hK (.inl rfl)⟩
      clear hI hB hK
      have hy11_0 : w.heap.size < w11.heap.size := (by omega)
      have hy11_1 : xb < w11.heap.size := (by omega)
      go_wp2_with fail
      refine bodyPost_ret (v := .agg #[.int .i64 a0, .int .i64 a1, .int .i64 a2, .int .i64 a3, .int .i64 a4, .int .i64 a5, .int .i64 a6, .int .i64 r11]) (by simp [results, Try.results95, go_sem, *]) rfl ⟨a0, a1, a2, a3, a4, a5, a6, r11, p3 + 1 + 1, rfl, by simp [Small]; omega, by omega, by omega, by repeat (first | (with_reducible exact HI11.out) | (with_reducible refine IsS100.alloc ?_ _) | (with_reducible refine IsS100.drewN ?_ _) | (with_reducible refine IsS100.drew ?_) | (refine IsS100.far ?_ (by first | assumption | (simp; omega) | omega) _)), by repeat (first | (with_reducible exact HB11.out) | (with_reducible refine below_alloc ?_ _) | (with_reducible refine pw_below_drewN ?_ _) | (with_reducible refine below_drew ?_) | (refine below_set ?_ (by have := HZ0.out; first | omega | (simp; omega)))), by repeat (first | (with_reducible exact HK11.out) | (with_reducible refine keep_alloc ?_ _) | (with_reducible refine keep_drewN ?_ _) | (with_reducible refine keep_drew ?_) | (refine keep_new ?_ (by first | (simp; done) | (simp; omega) | omega) _))⟩
    · refine bodyPost_ret (v := .agg #[.int .i64 a0, .int .i64 a1, .int .i64 a2, .int .i64 a3, .int .i64 a4, .int .i64 a5, .int .i64 a6, .int .i64 a7]) (by simp [results, Try.results95, go_sem, *]) rfl ⟨a0, a1, a2, a3, a4, a5, a6, a7, p3 + 1, rfl, by simp [Small]; omega, by omega, by omega, by repeat (first | (with_reducible exact HI10.out) | (with_reducible refine IsS100.alloc ?_ _) | (with_reducible refine IsS100.drewN ?_ _) | (with_reducible refine IsS100.drew ?_) | (refine IsS100.far ?_ (by first | assumption | (simp; omega) | omega) _)), by repeat (first | (with_reducible exact HB10.out) | (with_reducible refine below_alloc ?_ _) | (with_reducible refine pw_below_drewN ?_ _) | (with_reducible refine below_drew ?_) | (refine below_set ?_ (by have := HZ0.out; first | omega | (simp; omega)))), by repeat (first | (with_reducible exact HK10.out) | (with_reducible refine keep_alloc ?_ _) | (with_reducible refine keep_drewN ?_ _) | (with_reducible refine keep_drew ?_) | (refine keep_new ?_ (by first | (simp; done) | (simp; omega) | omega) _))⟩
set_option maxHeartbeats 4000000 in
set_option maxRecDepth 100000 in
theorem DrawRecOk_calls (A : Option Addr) (c : Nat) (l : List Int) (w : World) (hC : Kd.C (Kd.int .u8) w A l.length l) (hc : l.length ≤ c) (hby : Bytes l) :
    Calls Try.prog 42 #[.slice A l.length c] w fun e w' => ∃ a0 a1 a2 a3 a4 a5 a6 a7 : Int, e = .returned (.agg #[.int .i64 a0, .int .i64 a1, .int .i64 a2, .int .i64 a3, .int .i64 a4, .int .i64 a5, .int .i64 a6, .int .i64 a7]) ∧ Small [a0, a1, a2, a3, a4, a5, a6, a7] ∧ Below w.heap.size w w' := by
  have HC := Aside0.mk hC
  have HBY := Aside0.mk hby
  clear hC hby
  go_enter Try.func42, Try.ntmps42
  go_wp2_with fail
  refine (open_calls A c l w _ (by repeat (first | (with_reducible exact Below.refl _ _) | (with_reducible refine below_alloc ?_ _))) HC.out hc).mono ?_
  rintro e w1 ⟨g, b, rfl, hl, hbm, hI, hB, hBW⟩
  have hb : Bytes b := fun x hx => HBY.out x (hbm x hx)
  have hz1 := hBW.size
  (try simp at hz1)
  obtain ⟨hc1, hf1⟩ := bcell hBW
  have HI1 := Aside0.mk hI
  have HB1 := Aside0.mk hB
  have HZ0 := Aside0.mk (Nat.le_refl w.heap.size)
  have HZ1 := Aside0.mk hB.size
  have HK1 := Aside0.mk (KeepBut.refl w1 g none)
  have HGE := Aside0.mk (IsS100.ge hI)
  have hg1 : g < w1.heap.size := IsS100.lt hI
  have hn0 : w.heap.size ≠ g := RD_ne hI (z := 0) (by go_simp)
  clear hI hB hBW hbm
  have hy1_0 : w.heap.size < w1.heap.size := (by omega)
  go_wp2_with fail
  refine (l71Rec_calls g b (0) w _ (by repeat (first | (with_reducible exact HI1.out) | (with_reducible refine IsS100.alloc ?_ _) | (with_reducible refine IsS100.drewN ?_ _) | (with_reducible refine IsS100.drew ?_) | (refine IsS100.far ?_ (by first | assumption | (simp; omega) | omega) _))) (by repeat (first | (with_reducible exact HB1.out) | (with_reducible refine below_alloc ?_ _) | (with_reducible refine pw_below_drewN ?_ _) | (with_reducible refine below_drew ?_) | (refine below_set ?_ (by have := HZ0.out; first | omega | (simp; omega))))) hb hl (by omega) (by omega)).mono ?_
  rintro e w2 ⟨a0, a1, a2, a3, a4, a5, a6, a7, p2, rfl, hS, hp1, hp2, hI, hB, hK⟩
  have hz2 := hK.1
  (try simp at hz2)
  obtain ⟨hc2, hf2⟩ := kcell hK
  have HI2 := Aside0.mk hI
  have HB2 := Aside0.mk hB
  have HZ2 := Aside0.mk hB.size
  have HK2 : Aside0 (KeepBut w1 w2 g none) := ⟨KeepBut.trans (by repeat (first | (with_reducible exact HK1.out) | (with_reducible refine keep_alloc ?_ _) | (with_reducible refine keep_drewN ?_ _) | (with_reducible refine keep_drew ?_) | (refine keep_new ?_ (by first | (simp; done) | (simp; omega) | omega) _))) hK (.inl rfl)⟩
  clear hI hB hK
  have hy2_0 : w.heap.size < w2.heap.size := (by omega)
  have b0 : -3 ≤ a0 ∧ a0 ≤ 20 := hS _ (by simp)
  have b1 : -3 ≤ a1 ∧ a1 ≤ 20 := hS _ (by simp)
  have b2 : -3 ≤ a2 ∧ a2 ≤ 20 := hS _ (by simp)
  have b3 : -3 ≤ a3 ∧ a3 ≤ 20 := hS _ (by simp)
  have b4 : -3 ≤ a4 ∧ a4 ≤ 20 := hS _ (by simp)
  have b5 : -3 ≤ a5 ∧ a5 ≤ 20 := hS _ (by simp)
  have b6 : -3 ≤ a6 ∧ a6 ≤ 20 := hS _ (by simp)
  have b7 : -3 ≤ a7 ∧ a7 ≤ 20 := hS _ (by simp)
  have HS := Aside0.mk hS
  clear hS
  have hn2 : w2.heap.size ≠ g := by omega
  go_wp2_with fail
  refine (pick_calls g b (p2) 5 w _ (by repeat (first | (with_reducible exact HI2.out) | (with_reducible refine IsS100.alloc ?_ _) | (with_reducible refine IsS100.drewN ?_ _) | (with_reducible refine IsS100.drew ?_) | (refine IsS100.far ?_ (by first | assumption | (simp; omega) | omega) _))) (by repeat (first | (with_reducible exact HB2.out) | (with_reducible refine below_alloc ?_ _) | (with_reducible refine pw_below_drewN ?_ _) | (with_reducible refine below_drew ?_) | (refine below_set ?_ (by have := HZ0.out; first | omega | (simp; omega))))) hb hl (by omega) (by omega) (by omega)).mono ?_
  rintro e w3 ⟨r3, hl3, hr3, rfl, hI, hB, hK⟩
  have hz3 := hK.1
  (try simp at hz3)
  obtain ⟨hc3, hf3⟩ := kcell hK
  have HI3 := Aside0.mk hI
  have HB3 := Aside0.mk hB
  have HZ3 := Aside0.mk hB.size
  have HK3 : Aside0 (KeepBut w1 w3 g none) := ⟨KeepBut.trans (by repeat (first | (with_reducible exact HK2.out) | (with_reducible refine keep_alloc ?_ _) | (with_reducible refine keep_drewN ?_ _) | (with_reducible refine keep_drew ?_) | (refine keep_new ?_ (by first | (simp; done) | (simp; omega) | omega) _))) hK (.inl rfl)⟩
  clear hI hB hK
  have hy3_0 : w.heap.size < w3.heap.size := (by omega)
  have hy3_1 : w2.heap.size < w3.heap.size := (by omega)
  go_wp2_with fail
  · skip
    skip
    refine (pick_calls g b (p2 + 1) 8 w _ (by repeat (first | (with_reducible exact HI3.out) | (with_reducible refine IsS100.alloc ?_ _) | (with_reducible refine IsS100.drewN ?_ _) | (with_reducible refine IsS100.drew ?_) | (refine IsS100.far ?_ (by first | assumption | (simp; omega) | omega) _))) (by repeat (first | (with_reducible exact HB3.out) | (with_reducible refine below_alloc ?_ _) | (with_reducible refine pw_below_drewN ?_ _) | (with_reducible refine below_drew ?_) | (refine below_set ?_ (by have := HZ0.out; first | omega | (simp; omega))))) hb hl (by omega) (by omega) (by omega)).mono ?_
    rintro e w4 ⟨r4, hl4, hr4, rfl, hI, hB, hK⟩
    have hz4 := hK.1
    (try simp at hz4)
    obtain ⟨hc4, hf4⟩ := kcell hK
    have HI4 := Aside0.mk hI
    have HB4 := Aside0.mk hB
    have HZ4 := Aside0.mk hB.size
    have HK4 : Aside0 (KeepBut w1 w4 g none) := ⟨KeepBut.trans (by repeat (first | (with_reducible exact HK3.out) | (with_reducible refine keep_alloc ?_ _) | (with_reducible refine keep_drewN ?_ _) | (with_reducible refine keep_drew ?_) | (refine keep_new ?_ (by first | (simp; done) | (simp; omega) | omega) _))) hK (.inl rfl)⟩
    clear hI hB hK
    have hy4_0 : w.heap.size < w4.heap.size := (by omega)
    have hy4_1 : w2.heap.size < w4.heap.size := (by omega)
    go_wp2_with fail
    have hq0 : w4.cell? ⟨w.heap.size, 0, none⟩ = some (.int .i64 0) := by go_simp
    have hq1 : w4.cell? ⟨w.heap.size, 1, none⟩ = some (.int .i64 0) := by go_simp
    have hq2 : w4.cell? ⟨w.heap.size, 2, none⟩ = some (.int .i64 0) := by go_simp
    have hq3 : w4.cell? ⟨w.heap.size, 3, none⟩ = some (.int .i64 0) := by go_simp
    have hq4 : w4.cell? ⟨w.heap.size, 4, none⟩ = some (.int .i64 0) := by go_simp
    have hq5 : w4.cell? ⟨w.heap.size, 5, none⟩ = some (.int .i64 0) := by go_simp
    have hq6 : w4.cell? ⟨w.heap.size, 6, none⟩ = some (.int .i64 0) := by go_simp
    have hq7 : w4.cell? ⟨w.heap.size, 7, none⟩ = some (.int .i64 0) := by go_simp
    exact bodyPost_ret (v := .agg #[.int .i64 a0, .int .i64 a1, .int .i64 (r4 - 1), .int .i64 a3, .int .i64 a4, .int .i64 a5, .int .i64 a6, .int .i64 a7]) (by simp [results, Try.results42, go_sem, hq0, hq1, hq2, hq3, hq4, hq5, hq6, hq7, *]) rfl ⟨a0, a1, (r4 - 1), a3, a4, a5, a6, a7, rfl, by simp [Small]; omega, by repeat (first | (with_reducible exact HB4.out) | (with_reducible refine below_alloc ?_ _) | (with_reducible refine pw_below_drewN ?_ _) | (with_reducible refine below_drew ?_) | (refine below_set ?_ (by have := HZ0.out; first | omega | (simp; omega))))⟩
  · skip
    have hq0 : w3.cell? ⟨w.heap.size, 0, none⟩ = some (.int .i64 0) := by go_simp
    have hq1 : w3.cell? ⟨w.heap.size, 1, none⟩ = some (.int .i64 0) := by go_simp
    have hq2 : w3.cell? ⟨w.heap.size, 2, none⟩ = some (.int .i64 0) := by go_simp
    have hq3 : w3.cell? ⟨w.heap.size, 3, none⟩ = some (.int .i64 0) := by go_simp
    have hq4 : w3.cell? ⟨w.heap.size, 4, none⟩ = some (.int .i64 0) := by go_simp
    have hq5 : w3.cell? ⟨w.heap.size, 5, none⟩ = some (.int .i64 0) := by go_simp
    have hq6 : w3.cell? ⟨w.heap.size, 6, none⟩ = some (.int .i64 0) := by go_simp
    have hq7 : w3.cell? ⟨w.heap.size, 7, none⟩ = some (.int .i64 0) := by go_simp
    exact bodyPost_ret (v := .agg #[.int .i64 a0, .int .i64 a1, .int .i64 a2, .int .i64 a3, .int .i64 a4, .int .i64 a5, .int .i64 a6, .int .i64 a7]) (by simp [results, Try.results42, go_sem, hq0, hq1, hq2, hq3, hq4, hq5, hq6, hq7, *]) rfl ⟨a0, a1, a2, a3, a4, a5, a6, a7, rfl, HS.out, by repeat (first | (with_reducible exact HB3.out) | (with_reducible refine below_alloc ?_ _) | (with_reducible refine pw_below_drewN ?_ _) | (with_reducible refine below_drew ?_) | (refine below_set ?_ (by have := HZ0.out; first | omega | (simp; omega))))⟩
end Go.Proofs.Ytjicmjfnmdhahaa.T
