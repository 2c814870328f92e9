-- Laid by a program (extract.py) out of this seat's translation: contracts of a few functions, a text a function; Lean checks them.
import Derived.Test.YtcefiblpnegepaaPrK
import Derived.Test.YtcefiblpnegepaaPrSRD
import Derived.Test.YtcefiblpnegepaaPrIRD
import Derived.Test.YtcefiblpnegepaaPrDRD
namespace Go.Proofs.Ytcefiblpnegepaa.Pr
open Go.RowKit Go.Proofs.YtcefiblpnegepaaW.PrintWords Go.Proofs.YtcefiblpnegepaaW.PrintLast Go.Proofs.YtcefiblpnegepaaW.PrintMore
attribute [local go_sem] max2_int min2_int max_two min_two max_three min_three max_four min_four
set_option linter.unusedVariables false
set_option linter.unusedSimpArgs false
/-! ### laws_FnRecKinds: function 10 -/
mutual
def laws_FnRecKinds.j0 : Nat → List Int → List Int → Bool → Option (Bool)
  | 0, _, _, _ => none
  | k + 1, x0, x1, x25 => if x25 = true then (some true) else ((spec_DrawRecDo.f k x0).bind fun bt874 => ((spec_RecDo.f k bt874.1 bt874.2.1 bt874.2.2.1 bt874.2.2.2.1 bt874.2.2.2.2.1 bt874.2.2.2.2.2.1 bt874.2.2.2.2.2.2.1 bt874.2.2.2.2.2.2.2.1 bt874.2.2.2.2.2.2.2.2.1 bt874.2.2.2.2.2.2.2.2.2.1 bt874.2.2.2.2.2.2.2.2.2.2.1 bt874.2.2.2.2.2.2.2.2.2.2.2).bind fun bt890 => ((impl_RecDo.f k bt874.1 bt874.2.1 bt874.2.2.1 bt874.2.2.2.1 bt874.2.2.2.2.1 bt874.2.2.2.2.2.1 bt874.2.2.2.2.2.2.1 bt874.2.2.2.2.2.2.2.1 bt874.2.2.2.2.2.2.2.2.1 bt874.2.2.2.2.2.2.2.2.2.1 bt874.2.2.2.2.2.2.2.2.2.2.1 bt874.2.2.2.2.2.2.2.2.2.2.2).bind fun bt897 => (if (bt897.2.2.2 != bt890.2.2.2) = true then (laws_FnRecKinds.j1 k x1 bt890.2.2.2 bt897.2.2.2 true bt874.1 bt874.2.1 bt874.2.2.1 bt874.2.2.2.1 bt874.2.2.2.2.1 bt874.2.2.2.2.2.1 bt874.2.2.2.2.2.2.1 bt874.2.2.2.2.2.2.2.1 bt874.2.2.2.2.2.2.2.2.1 bt874.2.2.2.2.2.2.2.2.2.1 bt874.2.2.2.2.2.2.2.2.2.2.1 bt890.1 bt890.2.1 bt890.2.2.1 bt897.1 bt897.2.1 bt897.2.2.1) else ((laws_ltPage.f k bt897.1 bt897.2.1 bt897.2.2.1 bt890.1 bt890.2.1 bt890.2.2.1).bind fun t904 => (if t904 = true then ((spec_PageOk.f k bt874.1 bt874.2.1 bt874.2.2.1).bind fun t905 => (laws_FnRecKinds.j1 k x1 bt890.2.2.2 bt897.2.2.2 (!t905) bt874.1 bt874.2.1 bt874.2.2.1 bt874.2.2.2.1 bt874.2.2.2.2.1 bt874.2.2.2.2.2.1 bt874.2.2.2.2.2.2.1 bt874.2.2.2.2.2.2.2.1 bt874.2.2.2.2.2.2.2.2.1 bt874.2.2.2.2.2.2.2.2.2.1 bt874.2.2.2.2.2.2.2.2.2.2.1 bt890.1 bt890.2.1 bt890.2.2.1 bt897.1 bt897.2.1 bt897.2.2.1)) else (laws_FnRecKinds.j1 k x1 bt890.2.2.2 bt897.2.2.2 true bt874.1 bt874.2.1 bt874.2.2.1 bt874.2.2.2.1 bt874.2.2.2.2.1 bt874.2.2.2.2.2.1 bt874.2.2.2.2.2.2.1 bt874.2.2.2.2.2.2.2.1 bt874.2.2.2.2.2.2.2.2.1 bt874.2.2.2.2.2.2.2.2.2.1 bt874.2.2.2.2.2.2.2.2.2.2.1 bt890.1 bt890.2.1 bt890.2.2.1 bt897.1 bt897.2.1 bt897.2.2.1)))))))
def laws_FnRecKinds.j1 : Nat → List Int → Bool → Bool → Bool → Int → Int → List Int → Int → Int → Int → Int → Int → Int → Int → Int → Int → Int → List Int → Int → Int → List Int → Option (Bool)
  | 0, _, _, _, _, _, _, _, _, _, _, _, _, _, _, _, _, _, _, _, _, _ => none
  | k + 1, x1, x9, x11, x59, x889000, x889001, x889002, x890000, x890001, x890002, x890003, x890004, x890005, x890006, x890007, x897000, x897001, x897002, x904000, x904001, x904002 => if x59 = true then (if (x11 == x9) = true then ((laws_ltPage.f k x904000 x904001 x904002 x897000 x897001 x897002).bind fun t906 => (some t906)) else (some false)) else ((some (([3, 4, 5] : List Int) : List Int)).bind fun y907 => (laws_FnRecKinds.l0 k x1 y907 (y907.length : Int) 0 x889000 x889001 x889002 x890000 x890001 x890002 x890003 x890004 x890005 x890006 x890007))
def laws_FnRecKinds.l0 : Nat → List Int → List Int → Int → Int → Int → Int → List Int → Int → Int → Int → Int → Int → Int → Int → Int → Option (Bool)
  | 0, _, _, _, _, _, _, _, _, _, _, _, _, _, _, _ => none
  | k + 1, x1, x68, x69, x70, x889000, x889001, x889002, x890000, x890001, x890002, x890003, x890004, x890005, x890006, x890007 => if x70 < x69 then (if 0 ≤ x70 then (if x70 < (x68.length : Int) then ((impl_RecDo.f k x889000 x889001 x889002 (rd x68 x70) (1 + ((x1.length : Int) % 3)) 0 0 0 0 0 0 (wrap64 (x889000 + 1))).bind fun bt911 => (if bt911.2.2.2 = true then (some false) else (laws_FnRecKinds.l0 k x1 x68 x69 (wrap64 (x70 + 1)) x889000 x889001 x889002 x890000 x890001 x890002 x890003 x890004 x890005 x890006 x890007))) else (none)) else (none)) else ((impl_RecDo.f k x889000 x889001 x889002 x890000 x890001 x890002 x890003 x890004 x890005 x890006 x890007 151).bind fun bt918 => (some (!bt918.2.2.2)))
end
def laws_FnRecKinds.f (k : Nat) (l0 : List Int) (l1 : List Int) : Option (Bool) := if (l0.length : Int) > 1048576 then (laws_FnRecKinds.j0 k l0 l1 true) else (laws_FnRecKinds.j0 k l0 l1 (decide ((l1.length : Int) > 1048576)))
theorem laws_FnRecKinds.mono_l : ∀ k, (∀ y0 y1 y2, LeO (laws_FnRecKinds.j0 k y0 y1 y2) (laws_FnRecKinds.j0 (k + 1) y0 y1 y2)) ∧ (∀ y0 y1 y2 y3 y4 y5 y6 y7 y8 y9 y10 y11 y12 y13 y14 y15 y16 y17 y18 y19 y20, LeO (laws_FnRecKinds.j1 k y0 y1 y2 y3 y4 y5 y6 y7 y8 y9 y10 y11 y12 y13 y14 y15 y16 y17 y18 y19 y20) (laws_FnRecKinds.j1 (k + 1) y0 y1 y2 y3 y4 y5 y6 y7 y8 y9 y10 y11 y12 y13 y14 y15 y16 y17 y18 y19 y20)) ∧ (∀ y0 y1 y2 y3 y4 y5 y6 y7 y8 y9 y10 y11 y12 y13 y14, LeO (laws_FnRecKinds.l0 k y0 y1 y2 y3 y4 y5 y6 y7 y8 y9 y10 y11 y12 y13 y14) (laws_FnRecKinds.l0 (k + 1) y0 y1 y2 y3 y4 y5 y6 y7 y8 y9 y10 y11 y12 y13 y14))
  | 0 => ⟨fun _ _ _ r h => by simp [laws_FnRecKinds.j0] at h, fun _ _ _ _ _ _ _ _ _ _ _ _ _ _ _ _ _ _ _ _ _ r h => by simp [laws_FnRecKinds.j1] at h, fun _ _ _ _ _ _ _ _ _ _ _ _ _ _ _ r h => by simp [laws_FnRecKinds.l0] at h⟩
  | k + 1 => by
    obtain ⟨ih0, ih1, ih2⟩ := laws_FnRecKinds.mono_l k
    refine ⟨?_, ?_, ?_⟩
    · intro y0 y1 y2
      unfold laws_FnRecKinds.j0
      repeat' first
      | (with_reducible exact ih0 _ _ _)
      | (with_reducible exact ih1 _ _ _ _ _ _ _ _ _ _ _ _ _ _ _ _ _ _ _ _ _)
      | (with_reducible exact ih2 _ _ _ _ _ _ _ _ _ _ _ _ _ _ _)
      | (with_reducible exact impl_RecDo.mono _ _ _ _ _ _ _ _ _ _ _ _ _)
      | (with_reducible exact laws_ltPage.mono _ _ _ _ _ _ _)
      | (with_reducible exact spec_DrawRecDo.mono _ _)
      | (with_reducible exact spec_PageOk.mono _ _ _ _)
      | (with_reducible exact spec_RecDo.mono _ _ _ _ _ _ _ _ _ _ _ _ _)
      | (with_reducible exact LeO.refl _)
      | (with_reducible exact LeO.none _)
      | (with_reducible refine LeO.ite ?_ ?_)
      | (with_reducible refine LeO.bind ?_ (fun _ => ?_))
      | exact ih0 _ _ _
      | exact ih1 _ _ _ _ _ _ _ _ _ _ _ _ _ _ _ _ _ _ _ _ _
      | exact ih2 _ _ _ _ _ _ _ _ _ _ _ _ _ _ _
      | exact impl_RecDo.mono _ _ _ _ _ _ _ _ _ _ _ _ _
      | exact laws_ltPage.mono _ _ _ _ _ _ _
      | exact spec_DrawRecDo.mono _ _
      | exact spec_PageOk.mono _ _ _ _
      | exact spec_RecDo.mono _ _ _ _ _ _ _ _ _ _ _ _ _
      | exact LeO.none _
      | refine LeO.ite ?_ ?_
      | refine LeO.bind ?_ (fun _ => ?_)
    · intro y0 y1 y2 y3 y4 y5 y6 y7 y8 y9 y10 y11 y12 y13 y14 y15 y16 y17 y18 y19 y20
      unfold laws_FnRecKinds.j1
      repeat' first
      | (with_reducible exact ih0 _ _ _)
      | (with_reducible exact ih1 _ _ _ _ _ _ _ _ _ _ _ _ _ _ _ _ _ _ _ _ _)
      | (with_reducible exact ih2 _ _ _ _ _ _ _ _ _ _ _ _ _ _ _)
      | (with_reducible exact impl_RecDo.mono _ _ _ _ _ _ _ _ _ _ _ _ _)
      | (with_reducible exact laws_ltPage.mono _ _ _ _ _ _ _)
      | (with_reducible exact spec_DrawRecDo.mono _ _)
      | (with_reducible exact spec_PageOk.mono _ _ _ _)
      | (with_reducible exact spec_RecDo.mono _ _ _ _ _ _ _ _ _ _ _ _ _)
      | (with_reducible exact LeO.refl _)
      | (with_reducible exact LeO.none _)
      | (with_reducible refine LeO.ite ?_ ?_)
      | (with_reducible refine LeO.bind ?_ (fun _ => ?_))
      | exact ih0 _ _ _
      | exact ih1 _ _ _ _ _ _ _ _ _ _ _ _ _ _ _ _ _ _ _ _ _
      | exact ih2 _ _ _ _ _ _ _ _ _ _ _ _ _ _ _
      | exact impl_RecDo.mono _ _ _ _ _ _ _ _ _ _ _ _ _
      | exact laws_ltPage.mono _ _ _ _ _ _ _
      | exact spec_DrawRecDo.mono _ _
      | exact spec_PageOk.mono _ _ _ _
      | exact spec_RecDo.mono _ _ _ _ _ _ _ _ _ _ _ _ _
      | exact LeO.none _
      | refine LeO.ite ?_ ?_
      | refine LeO.bind ?_ (fun _ => ?_)
    · intro y0 y1 y2 y3 y4 y5 y6 y7 y8 y9 y10 y11 y12 y13 y14
      unfold laws_FnRecKinds.l0
      repeat' first
      | (with_reducible exact ih0 _ _ _)
      | (with_reducible exact ih1 _ _ _ _ _ _ _ _ _ _ _ _ _ _ _ _ _ _ _ _ _)
      | (with_reducible exact ih2 _ _ _ _ _ _ _ _ _ _ _ _ _ _ _)
      | (with_reducible exact impl_RecDo.mono _ _ _ _ _ _ _ _ _ _ _ _ _)
      | (with_reducible exact laws_ltPage.mono _ _ _ _ _ _ _)
      | (with_reducible exact spec_DrawRecDo.mono _ _)
      | (with_reducible exact spec_PageOk.mono _ _ _ _)
      | (with_reducible exact spec_RecDo.mono _ _ _ _ _ _ _ _ _ _ _ _ _)
      | (with_reducible exact LeO.refl _)
      | (with_reducible exact LeO.none _)
      | (with_reducible refine LeO.ite ?_ ?_)
      | (with_reducible refine LeO.bind ?_ (fun _ => ?_))
      | exact ih0 _ _ _
      | exact ih1 _ _ _ _ _ _ _ _ _ _ _ _ _ _ _ _ _ _ _ _ _
      | exact ih2 _ _ _ _ _ _ _ _ _ _ _ _ _ _ _
      | exact impl_RecDo.mono _ _ _ _ _ _ _ _ _ _ _ _ _
      | exact laws_ltPage.mono _ _ _ _ _ _ _
      | exact spec_DrawRecDo.mono _ _
      | exact spec_PageOk.mono _ _ _ _
      | exact spec_RecDo.mono _ _ _ _ _ _ _ _ _ _ _ _ _
      | exact LeO.none _
      | refine LeO.ite ?_ ?_
      | refine LeO.bind ?_ (fun _ => ?_)
theorem laws_FnRecKinds.mono : ∀ a0 a1 k, LeO (laws_FnRecKinds.f k a0 a1) (laws_FnRecKinds.f (k + 1) a0 a1) := by
  intro a0 a1 k
  obtain ⟨ih0, ih1, ih2⟩ := laws_FnRecKinds.mono_l k
  unfold laws_FnRecKinds.f
  repeat' first
      | (with_reducible exact ih0 _ _ _)
      | (with_reducible exact ih1 _ _ _ _ _ _ _ _ _ _ _ _ _ _ _ _ _ _ _ _ _)
      | (with_reducible exact ih2 _ _ _ _ _ _ _ _ _ _ _ _ _ _ _)
      | (with_reducible exact impl_RecDo.mono _ _ _ _ _ _ _ _ _ _ _ _ _)
      | (with_reducible exact laws_ltPage.mono _ _ _ _ _ _ _)
      | (with_reducible exact spec_DrawRecDo.mono _ _)
      | (with_reducible exact spec_PageOk.mono _ _ _ _)
      | (with_reducible exact spec_RecDo.mono _ _ _ _ _ _ _ _ _ _ _ _ _)
      | (with_reducible exact LeO.refl _)
      | (with_reducible exact LeO.none _)
      | (with_reducible refine LeO.ite ?_ ?_)
      | (with_reducible refine LeO.bind ?_ (fun _ => ?_))
      | exact ih0 _ _ _
      | exact ih1 _ _ _ _ _ _ _ _ _ _ _ _ _ _ _ _ _ _ _ _ _
      | exact ih2 _ _ _ _ _ _ _ _ _ _ _ _ _ _ _
      | exact impl_RecDo.mono _ _ _ _ _ _ _ _ _ _ _ _ _
      | exact laws_ltPage.mono _ _ _ _ _ _ _
      | exact spec_DrawRecDo.mono _ _
      | exact spec_PageOk.mono _ _ _ _
      | exact spec_RecDo.mono _ _ _ _ _ _ _ _ _ _ _ _ _
      | exact LeO.none _
      | refine LeO.ite ?_ ?_
      | refine LeO.bind ?_ (fun _ => ?_)
set_option maxHeartbeats 8000000 in
set_option maxRecDepth 100000 in
theorem laws_FnRecKinds.calls (k : Nat) (A0 : Option Addr) (c0 : Nat) (l0 : List Int) (A1 : Option Addr) (c1 : Nat) (l1 : List Int) (r : Bool) (w : World) (hr0 : Kd.C (Kd.int .u8) w A0 l0.length l0) (hc0 : l0.length ≤ c0) (hr1 : Kd.C (Kd.int .u8) w A1 l1.length l1) (hc1 : l1.length ≤ c1) (h : laws_FnRecKinds.f k l0 l1 = some r) :
    Calls Try.prog 10 #[.slice A0 l0.length c0, .slice A1 l1.length c1] w fun e w' => e = .returned (.bool r) ∧ Below w.heap.size w w' := by
  have hu25 := Try.underlying25
  have hu41 := Try.underlying41
  have HR0 := Aside0.mk hr0
  have HC0 := Aside0.mk hc0
  clear hr0 hc0
  have HR1 := Aside0.mk hr1
  have HC1 := Aside0.mk hc1
  clear hr1 hc1
  have HB := Aside0.mk (Below.refl w.heap.size w)
  have H : (if (l0.length : Int) > 1048576 then (laws_FnRecKinds.j0 k l0 l1 true) else (laws_FnRecKinds.j0 k l0 l1 (decide ((l1.length : Int) > 1048576)))) = some r := h
  clear h
  have HC3 := Aside0.mk H
  clear H
  go_enter Try.func10, Try.ntmps10
  go_upto_region 1 with (fail)
  go_cut [25] (fun v25 wc => ∃ (kq : Nat) (x25_2 : Bool), v25 = .bool x25_2 ∧ Aside0 (laws_FnRecKinds.j0 kq l0 l1 x25_2 = some r) ∧ Aside0 (kq ≤ k) ∧ Aside0 (Below w.heap.size w wc))
  case first =>
    have H := HC3.out
    clear HC3
    by_cases c4 : (l0.length : Int) > 1048576
    · rw [if_pos c4] at H
      have c4b0 : decide (1048576 < (l0.length : Int)) = true := decide_eq_true c4
      have c4b1 : decide (1048576 < l0.length) = true := decide_eq_true (by omega)
      clear c4
      (first | rw [c4b0] | (simp only [i64_w, i32_w]; rw [c4b0]) | skip)
      have H' := Aside0.mk H
      clear H
      go_wp2
      go_meet
      case rel => exact ⟨_, (true), (by first | rfl | (simp; done) | (simp [*]; done)), H', ⟨by first | omega | exact Nat.le_refl _⟩, ⟨by repeat (first | (with_reducible first | exact HB.out | apply below_alloc | apply pw_below_drewN | apply below_drew1) | exact HB.out)⟩⟩
    · rw [if_neg c4] at H
      have c4b0 : decide (1048576 < (l0.length : Int)) = false := decide_eq_false c4
      have c4b1 : decide (1048576 < l0.length) = false := decide_eq_false (by omega)
      clear c4
      (first | rw [c4b0] | (simp only [i64_w, i32_w]; rw [c4b0]) | skip)
      have H' := Aside0.mk H
      clear H
      go_wp2
      go_meet
      case rel => exact ⟨_, (decide ((l1.length : Int) > 1048576)), (by first | rfl | (simp; done) | (simp [*]; done)), H', ⟨by first | omega | exact Nat.le_refl _⟩, ⟨by repeat (first | (with_reducible first | exact HB.out | apply below_alloc | apply pw_below_drewN | apply below_drew1) | exact HB.out)⟩⟩
  case rest =>
    clear HC3
    try clear c1
    try clear p2
    try clear c4
    try clear c4b0
    try clear c4b1
    obtain ⟨kq, x25_2, rfl, HA, HJ2, HB⟩ := hcut
    cases kq with
    | zero => exact absurd HA.out (by simp [laws_FnRecKinds.j0])
    | succ kj2 =>
      have H := HA.out
      clear HA
      simp only [laws_FnRecKinds.j0] at H
      by_cases c5 : x25_2 = true
      · subst c5
        have H1 : (some true) = some r := by rw [if_pos rfl] at H; exact H
        clear H
        have H := H1
        clear H1
        obtain rfl := Option.some.inj H
        go_wp2
        go_ret
        exact ⟨by first | rfl | (simp [errW_none, errW_some] <;> rfl) | (simp [*, errW_none, errW_some] <;> rfl), by repeat (first | (with_reducible first | exact HB.out | apply below_alloc | apply pw_below_drewN | apply below_drew1) | exact HB.out)⟩
      · replace c5 := Bool.eq_false_iff.mpr c5
        subst c5
        have H1 : ((spec_DrawRecDo.f kj2 l0).bind fun bt874 => ((spec_RecDo.f kj2 bt874.1 bt874.2.1 bt874.2.2.1 bt874.2.2.2.1 bt874.2.2.2.2.1 bt874.2.2.2.2.2.1 bt874.2.2.2.2.2.2.1 bt874.2.2.2.2.2.2.2.1 bt874.2.2.2.2.2.2.2.2.1 bt874.2.2.2.2.2.2.2.2.2.1 bt874.2.2.2.2.2.2.2.2.2.2.1 bt874.2.2.2.2.2.2.2.2.2.2.2).bind fun bt890 => ((impl_RecDo.f kj2 bt874.1 bt874.2.1 bt874.2.2.1 bt874.2.2.2.1 bt874.2.2.2.2.1 bt874.2.2.2.2.2.1 bt874.2.2.2.2.2.2.1 bt874.2.2.2.2.2.2.2.1 bt874.2.2.2.2.2.2.2.2.1 bt874.2.2.2.2.2.2.2.2.2.1 bt874.2.2.2.2.2.2.2.2.2.2.1 bt874.2.2.2.2.2.2.2.2.2.2.2).bind fun bt897 => (if (bt897.2.2.2 != bt890.2.2.2) = true then (laws_FnRecKinds.j1 kj2 l1 bt890.2.2.2 bt897.2.2.2 true bt874.1 bt874.2.1 bt874.2.2.1 bt874.2.2.2.1 bt874.2.2.2.2.1 bt874.2.2.2.2.2.1 bt874.2.2.2.2.2.2.1 bt874.2.2.2.2.2.2.2.1 bt874.2.2.2.2.2.2.2.2.1 bt874.2.2.2.2.2.2.2.2.2.1 bt874.2.2.2.2.2.2.2.2.2.2.1 bt890.1 bt890.2.1 bt890.2.2.1 bt897.1 bt897.2.1 bt897.2.2.1) else ((laws_ltPage.f kj2 bt897.1 bt897.2.1 bt897.2.2.1 bt890.1 bt890.2.1 bt890.2.2.1).bind fun t904 => (if t904 = true then ((spec_PageOk.f kj2 bt874.1 bt874.2.1 bt874.2.2.1).bind fun t905 => (laws_FnRecKinds.j1 kj2 l1 bt890.2.2.2 bt897.2.2.2 (!t905) bt874.1 bt874.2.1 bt874.2.2.1 bt874.2.2.2.1 bt874.2.2.2.2.1 bt874.2.2.2.2.2.1 bt874.2.2.2.2.2.2.1 bt874.2.2.2.2.2.2.2.1 bt874.2.2.2.2.2.2.2.2.1 bt874.2.2.2.2.2.2.2.2.2.1 bt874.2.2.2.2.2.2.2.2.2.2.1 bt890.1 bt890.2.1 bt890.2.2.1 bt897.1 bt897.2.1 bt897.2.2.1)) else (laws_FnRecKinds.j1 kj2 l1 bt890.2.2.2 bt897.2.2.2 true bt874.1 bt874.2.1 bt874.2.2.1 bt874.2.2.2.1 bt874.2.2.2.2.1 bt874.2.2.2.2.2.1 bt874.2.2.2.2.2.2.1 bt874.2.2.2.2.2.2.2.1 bt874.2.2.2.2.2.2.2.2.1 bt874.2.2.2.2.2.2.2.2.2.1 bt874.2.2.2.2.2.2.2.2.2.2.1 bt890.1 bt890.2.1 bt890.2.2.1 bt897.1 bt897.2.1 bt897.2.2.1))))))) = some r := by rw [if_neg (show ¬ (false = true) by decide)] at H; exact H
        clear H
        have H := H1
        clear H1
        replace H := Option.bind_eq_some_iff.mp H
        obtain ⟨⟨t874, t875, t876, t879, t880, t881, t882, t883, t884, t885, t886, t887⟩, A60, H⟩ := H
        replace H : ((spec_RecDo.f kj2 t874 t875 t876 t879 t880 t881 t882 t883 t884 t885 t886 t887).bind fun bt890 => ((impl_RecDo.f kj2 t874 t875 t876 t879 t880 t881 t882 t883 t884 t885 t886 t887).bind fun bt897 => (if (bt897.2.2.2 != bt890.2.2.2) = true then (laws_FnRecKinds.j1 kj2 l1 bt890.2.2.2 bt897.2.2.2 true t874 t875 t876 t879 t880 t881 t882 t883 t884 t885 t886 bt890.1 bt890.2.1 bt890.2.2.1 bt897.1 bt897.2.1 bt897.2.2.1) else ((laws_ltPage.f kj2 bt897.1 bt897.2.1 bt897.2.2.1 bt890.1 bt890.2.1 bt890.2.2.1).bind fun t904 => (if t904 = true then ((spec_PageOk.f kj2 t874 t875 t876).bind fun t905 => (laws_FnRecKinds.j1 kj2 l1 bt890.2.2.2 bt897.2.2.2 (!t905) t874 t875 t876 t879 t880 t881 t882 t883 t884 t885 t886 bt890.1 bt890.2.1 bt890.2.2.1 bt897.1 bt897.2.1 bt897.2.2.1)) else (laws_FnRecKinds.j1 kj2 l1 bt890.2.2.2 bt897.2.2.2 true t874 t875 t876 t879 t880 t881 t882 t883 t884 t885 t886 bt890.1 bt890.2.1 bt890.2.2.1 bt897.1 bt897.2.1 bt897.2.2.1)))))) = some r := H
        have A6 := Aside0.mk A60
        clear A60
        replace H := Option.bind_eq_some_iff.mp H
        obtain ⟨⟨t890, t891, t892, t895⟩, A70, H⟩ := H
        replace H : ((impl_RecDo.f kj2 t874 t875 t876 t879 t880 t881 t882 t883 t884 t885 t886 t887).bind fun bt897 => (if (bt897.2.2.2 != t895) = true then (laws_FnRecKinds.j1 kj2 l1 t895 bt897.2.2.2 true t874 t875 t876 t879 t880 t881 t882 t883 t884 t885 t886 t890 t891 t892 bt897.1 bt897.2.1 bt897.2.2.1) else ((laws_ltPage.f kj2 bt897.1 bt897.2.1 bt897.2.2.1 t890 t891 t892).bind fun t904 => (if t904 = true then ((spec_PageOk.f kj2 t874 t875 t876).bind fun t905 => (laws_FnRecKinds.j1 kj2 l1 t895 bt897.2.2.2 (!t905) t874 t875 t876 t879 t880 t881 t882 t883 t884 t885 t886 t890 t891 t892 bt897.1 bt897.2.1 bt897.2.2.1)) else (laws_FnRecKinds.j1 kj2 l1 t895 bt897.2.2.2 true t874 t875 t876 t879 t880 t881 t882 t883 t884 t885 t886 t890 t891 t892 bt897.1 bt897.2.1 bt897.2.2.1))))) = some r := H
        have A7 := Aside0.mk A70
        clear A70
        replace H := Option.bind_eq_some_iff.mp H
        obtain ⟨⟨t897, t898, t899, t902⟩, A80, H⟩ := H
        replace H : (if (t902 != t895) = true then (laws_FnRecKinds.j1 kj2 l1 t895 t902 true t874 t875 t876 t879 t880 t881 t882 t883 t884 t885 t886 t890 t891 t892 t897 t898 t899) else ((laws_ltPage.f kj2 t897 t898 t899 t890 t891 t892).bind fun t904 => (if t904 = true then ((spec_PageOk.f kj2 t874 t875 t876).bind fun t905 => (laws_FnRecKinds.j1 kj2 l1 t895 t902 (!t905) t874 t875 t876 t879 t880 t881 t882 t883 t884 t885 t886 t890 t891 t892 t897 t898 t899)) else (laws_FnRecKinds.j1 kj2 l1 t895 t902 true t874 t875 t876 t879 t880 t881 t882 t883 t884 t885 t886 t890 t891 t892 t897 t898 t899)))) = some r := H
        have A8 := Aside0.mk A80
        clear A80
        have HC9 := Aside0.mk H
        clear H
        go_upto_region 6 with (first | ((with_reducible refine gate_callee (f := 56) rfl ?_); refine goesL_ (some 28) rfl rfl Try.func56 (by kernel_rfl) rfl #[.slice A0 l0.length c0] rfl (by (try simp only [List.map_toArray, List.map_cons, List.map_nil]); first | done | rfl | (simp only [List.length_drop, List.length_take]; rfl)) ?_; (with_reducible refine (spec_DrawRecDo.calls kj2 _ _ l0 t874 t875 t876 t879 t880 t881 t882 t883 t884 t885 t886 t887 _ ?side1 ?side2 A6.out).mono ?_); (case side1 => repeat (first | exact (Kd.C_below HR0.out HB.out) | (with_reducible refine Kd.C_alloc ?_ _) | (with_reducible refine Kd.C_drewN ?_ _) | (with_reducible refine Kd.C_drew ?_))); (case side2 => exact HC0.out); rintro e w10 ⟨v877, rfl, ho0, hb⟩; refine ⟨_, rfl, ?_⟩; have n0_ := Aside0.mk (Kd.Q_lower ho0 (below_size (by repeat (first | (with_reducible first | exact HB.out | apply below_alloc | apply pw_below_drewN | apply below_drew1) | exact HB.out)))); have n1_ := Aside0.mk (below_step (by repeat (first | (with_reducible first | exact HB.out | apply below_alloc | apply pw_below_drewN | apply below_drew1) | exact HB.out)) hb); clear HB; have HO878 := n0_; have HB := n1_; clear n0_ n1_; (try clear hb); (try clear hb2); (try clear hk); (try clear hi); (try clear ho0)) | ((with_reducible refine gate_dst (N := 5) rfl ?_); (try (refine gate_guard (by rfl) ?_; dsimp only)); refine box_event ?hg (N := 5) ?hd (cs := #[.int .i64 0, .int .i64 0, .slice none 0 0]) (t := 25) ?hr ?_; (case hd => rfl); (case hg => rfl); (case hr => first | (go_simp; done) | (go_simp; rfl)); intro gb888 hg w11 hbox hb; have n0_ := Aside0.mk (Kd.Q_below (by (with_reducible repeat (first | apply Kd.Q_alloc | apply Kd.Q_drewN | apply Kd.Q_drew)); exact HO878.out) hb); have n1_ := Aside0.mk (below_step (by repeat (first | (with_reducible first | exact HB.out | apply below_alloc | apply pw_below_drewN | apply below_drew1) | exact HB.out)) hb); have n2_ := Aside0.mk (hbox); have n3_ := Aside0.mk ((by rw [hg]; exact (below_size (by repeat (first | (with_reducible first | exact HB.out | apply below_alloc | apply pw_below_drewN | apply below_drew1) | exact HB.out))) : w.heap.size ≤ gb888)); have n4_ := Aside0.mk ((by rw [hg]; exact (below_size (by repeat (first | (with_reducible first | exact HB.out | apply below_alloc | apply pw_below_drewN | apply below_drew1) | exact HB.out))) : w.heap.size ≤ gb888)); clear HO878; clear HB; have HO878 := n0_; have HB := n1_; have BK888 := n2_; have GW888 := n3_; have GE888 := n4_; clear n0_ n1_ n2_ n3_ n4_; clear hb hbox hg) | ((with_reducible refine gate_dst (N := 6) rfl ?_); (try (refine gate_guard (by rfl) ?_; dsimp only)); refine box_event ?hg (N := 6) ?hd (cs := #[.int .i64 0, .int .i64 0, .int .i64 0, .int .i64 0, .int .i64 0, .int .i64 0, .int .i64 0, .int .i64 0]) (t := 41) ?hr ?_; (case hd => rfl); (case hg => rfl); (case hr => first | (go_simp; done) | (go_simp; rfl)); intro gb889 hg w12 hbox hb; have n0_ := Aside0.mk (Kd.Q_below (by (with_reducible repeat (first | apply Kd.Q_alloc | apply Kd.Q_drewN | apply Kd.Q_drew)); exact HO878.out) hb); have n1_ := Aside0.mk (blk_below (g := gb888) (o := .cells #[.int .i64 0, .int .i64 0, .slice none 0 0] 25 (0, 0)) (by (with_reducible repeat (first | refine blk_drewN ?_ _ | refine blk_drew ?_ | refine blk_alloc ?_ _)); exact BK888.out) hb); have n2_ := Aside0.mk (below_step (by repeat (first | (with_reducible first | exact HB.out | apply below_alloc | apply pw_below_drewN | apply below_drew1 | refine below_set ?_ GE888.out) | exact HB.out)) hb); have n3_ := Aside0.mk (hbox); have n4_ := Aside0.mk ((by rw [hg]; exact (below_size (by repeat (first | (with_reducible first | exact HB.out | apply below_alloc | apply pw_below_drewN | apply below_drew1 | refine below_set ?_ GE888.out) | exact HB.out))) : w.heap.size ≤ gb889)); have n5_ := Aside0.mk ((by rw [hg]; exact (below_size (by repeat (first | (with_reducible first | exact HB.out | apply below_alloc | apply pw_below_drewN | apply below_drew1 | refine below_set ?_ GE888.out) | exact HB.out))) : w.heap.size ≤ gb889)); have n6_ := Aside0.mk ((by rw [hg]; exact Nat.ne_of_lt (blk_lt (g := gb888) (o := .cells #[.int .i64 0, .int .i64 0, .slice none 0 0] 25 (0, 0)) (by (with_reducible repeat (first | refine blk_drewN ?_ _ | refine blk_drew ?_ | refine blk_alloc ?_ _)); exact BK888.out)) : gb888 ≠ gb889)); have n7_ := Aside0.mk ((by rw [hg]; exact Nat.ne_of_gt (blk_lt (g := gb888) (o := .cells #[.int .i64 0, .int .i64 0, .slice none 0 0] 25 (0, 0)) (by (with_reducible repeat (first | refine blk_drewN ?_ _ | refine blk_drew ?_ | refine blk_alloc ?_ _)); exact BK888.out)) : gb889 ≠ gb888)); clear HO878; clear BK888; clear HB; have HO878 := n0_; have BK888 := n1_; have HB := n2_; have BK889 := n3_; have GW889 := n4_; have GE889 := n5_; have NB888_889 := n6_; have NB889_888 := n7_; clear n0_ n1_ n2_ n3_ n4_ n5_ n6_ n7_; clear hb hbox hg; have hnb13 := NB888_889.out; have hnc13 := NB889_888.out; have hcz14_0 : w12.cell? ⟨gb888, 0, none⟩ = some (.int .i64 0) := (blk_cell BK888.out 0).trans rfl; have hcz14_1 : w12.cell? ⟨gb888, 1, none⟩ = some (.int .i64 0) := (blk_cell BK888.out 1).trans rfl; have hcz14_2 : w12.cell? ⟨gb888, 2, none⟩ = some (.slice none 0 0) := (blk_cell BK888.out 2).trans rfl; have hfz14_0 := blk_frozen BK888.out 0; have hfz14_1 := blk_frozen BK888.out 1; have hfz14_2 := blk_frozen BK888.out 2; obtain ⟨Ao15, co15, eo15, _⟩ := Kd.Q_slice HO878.out; subst eo15; have hcz16_0 : w12.cell? ⟨gb889, 0, none⟩ = some (.int .i64 0) := (blk_cell BK889.out 0).trans rfl; have hcz16_1 : w12.cell? ⟨gb889, 1, none⟩ = some (.int .i64 0) := (blk_cell BK889.out 1).trans rfl; have hcz16_2 : w12.cell? ⟨gb889, 2, none⟩ = some (.int .i64 0) := (blk_cell BK889.out 2).trans rfl; have hcz16_3 : w12.cell? ⟨gb889, 3, none⟩ = some (.int .i64 0) := (blk_cell BK889.out 3).trans rfl; have hcz16_4 : w12.cell? ⟨gb889, 4, none⟩ = some (.int .i64 0) := (blk_cell BK889.out 4).trans rfl; have hcz16_5 : w12.cell? ⟨gb889, 5, none⟩ = some (.int .i64 0) := (blk_cell BK889.out 5).trans rfl; have hcz16_6 : w12.cell? ⟨gb889, 6, none⟩ = some (.int .i64 0) := (blk_cell BK889.out 6).trans rfl; have hcz16_7 : w12.cell? ⟨gb889, 7, none⟩ = some (.int .i64 0) := (blk_cell BK889.out 7).trans rfl; have hfz16_0 := blk_frozen BK889.out 0; have hfz16_1 := blk_frozen BK889.out 1; have hfz16_2 := blk_frozen BK889.out 2; have hfz16_3 := blk_frozen BK889.out 3; have hfz16_4 := blk_frozen BK889.out 4; have hfz16_5 := blk_frozen BK889.out 5; have hfz16_6 := blk_frozen BK889.out 6; have hfz16_7 := blk_frozen BK889.out 7) | ((with_reducible refine gate_callee (f := 50) rfl ?_); refine goesL_ (some 36) rfl rfl Try.func50 (by kernel_rfl) rfl #[.agg #[.int .i64 t874, .int .i64 t875, .slice Ao15 t876.length co15], .agg #[.int .i64 t879, .int .i64 t880, .int .i64 t881, .int .i64 t882, .int .i64 t883, .int .i64 t884, .int .i64 t885, .int .i64 t886], .int .i64 t887] rfl (by (try simp only [List.map_toArray, List.map_cons, List.map_nil]); first | done | rfl | (simp only [List.length_drop, List.length_take]; rfl)) ?_; (with_reducible refine (spec_RecDo.calls kj2 t874 t875 _ _ t876 t879 t880 t881 t882 t883 t884 t885 t886 t887 t890 t891 t892 t895 _ ?side1 ?side2 A7.out).mono ?_); (case side1 => refine (Kd.Q_reads' (e := 3) (base := w.heap.size) (ok := fun k_ => True) (n := t876.length) (c := co15) ?_).2.2; exact (by (with_reducible repeat (first | apply Kd.Q_alloc | apply Kd.Q_drewN | apply Kd.Q_drew)); exact (Kd.Q_mono (Kd.Q_mono (Kd.Q_far (p := ⟨gb889, 7, none⟩) (Kd.Q_far (p := ⟨gb889, 6, none⟩) (Kd.Q_far (p := ⟨gb889, 5, none⟩) (Kd.Q_far (p := ⟨gb889, 4, none⟩) (Kd.Q_far (p := ⟨gb889, 3, none⟩) (Kd.Q_far (p := ⟨gb889, 2, none⟩) (Kd.Q_far (p := ⟨gb889, 1, none⟩) (Kd.Q_far (p := ⟨gb889, 0, none⟩) (Kd.Q_far (p := ⟨gb888, 2, none⟩) (Kd.Q_far (p := ⟨gb888, 1, none⟩) (Kd.Q_far (p := ⟨gb888, 0, none⟩) (Kd.Q_types (Kd.Q_types HO878.out BK888.out (by decide)) BK889.out (by decide)) (fun _ hk => hk.1.2) (.int .i64 t874)) (fun _ hk => hk.1.2) (.int .i64 t875)) (fun _ hk => hk.1.2) (.slice Ao15 t876.length co15)) (fun _ hk => hk.2) (.int .i64 t879)) (fun _ hk => hk.2) (.int .i64 t880)) (fun _ hk => hk.2) (.int .i64 t881)) (fun _ hk => hk.2) (.int .i64 t882)) (fun _ hk => hk.2) (.int .i64 t883)) (fun _ hk => hk.2) (.int .i64 t884)) (fun _ hk => hk.2) (.int .i64 t885)) (fun _ hk => hk.2) (.int .i64 t886)) (fun _ h_ => h_.1)) (fun _ h_ => h_.1)))); (case side2 => exact (Kd.Q_reads' HO878.out).2.1); rintro e w17 ⟨v893, rfl, ho0, hb⟩; refine ⟨_, rfl, ?_⟩; have n0_ := Aside0.mk (Kd.Q_elder' (by (with_reducible repeat (first | apply Kd.Q_alloc | apply Kd.Q_drewN | apply Kd.Q_drew)); exact (Kd.Q_mono (Kd.Q_mono (Kd.Q_far (p := ⟨gb889, 7, none⟩) (Kd.Q_far (p := ⟨gb889, 6, none⟩) (Kd.Q_far (p := ⟨gb889, 5, none⟩) (Kd.Q_far (p := ⟨gb889, 4, none⟩) (Kd.Q_far (p := ⟨gb889, 3, none⟩) (Kd.Q_far (p := ⟨gb889, 2, none⟩) (Kd.Q_far (p := ⟨gb889, 1, none⟩) (Kd.Q_far (p := ⟨gb889, 0, none⟩) (Kd.Q_far (p := ⟨gb888, 2, none⟩) (Kd.Q_far (p := ⟨gb888, 1, none⟩) (Kd.Q_far (p := ⟨gb888, 0, none⟩) (Kd.Q_types (Kd.Q_types HO878.out BK888.out (by decide)) BK889.out (by decide)) (fun _ hk => hk.1.2) (.int .i64 t874)) (fun _ hk => hk.1.2) (.int .i64 t875)) (fun _ hk => hk.1.2) (.slice Ao15 t876.length co15)) (fun _ hk => hk.2) (.int .i64 t879)) (fun _ hk => hk.2) (.int .i64 t880)) (fun _ hk => hk.2) (.int .i64 t881)) (fun _ hk => hk.2) (.int .i64 t882)) (fun _ hk => hk.2) (.int .i64 t883)) (fun _ hk => hk.2) (.int .i64 t884)) (fun _ hk => hk.2) (.int .i64 t885)) (fun _ hk => hk.2) (.int .i64 t886)) (fun _ h_ => h_.1)) (fun _ h_ => h_.1))) (Kd.R_base ho0) hb); have n1_ := Aside0.mk (Kd.R_lower (Kd.R_new' ho0 (Kd.Q_lt (by (with_reducible repeat (first | apply Kd.Q_alloc | apply Kd.Q_drewN | apply Kd.Q_drew)); exact (Kd.Q_mono (Kd.Q_mono (Kd.Q_far (p := ⟨gb889, 7, none⟩) (Kd.Q_far (p := ⟨gb889, 6, none⟩) (Kd.Q_far (p := ⟨gb889, 5, none⟩) (Kd.Q_far (p := ⟨gb889, 4, none⟩) (Kd.Q_far (p := ⟨gb889, 3, none⟩) (Kd.Q_far (p := ⟨gb889, 2, none⟩) (Kd.Q_far (p := ⟨gb889, 1, none⟩) (Kd.Q_far (p := ⟨gb889, 0, none⟩) (Kd.Q_far (p := ⟨gb888, 2, none⟩) (Kd.Q_far (p := ⟨gb888, 1, none⟩) (Kd.Q_far (p := ⟨gb888, 0, none⟩) (Kd.Q_types (Kd.Q_types HO878.out BK888.out (by decide)) BK889.out (by decide)) (fun _ hk => hk.1.2) (.int .i64 t874)) (fun _ hk => hk.1.2) (.int .i64 t875)) (fun _ hk => hk.1.2) (.slice Ao15 t876.length co15)) (fun _ hk => hk.2) (.int .i64 t879)) (fun _ hk => hk.2) (.int .i64 t880)) (fun _ hk => hk.2) (.int .i64 t881)) (fun _ hk => hk.2) (.int .i64 t882)) (fun _ hk => hk.2) (.int .i64 t883)) (fun _ hk => hk.2) (.int .i64 t884)) (fun _ hk => hk.2) (.int .i64 t885)) (fun _ hk => hk.2) (.int .i64 t886)) (fun _ h_ => h_.1)) (fun _ h_ => h_.1))))) (below_size (by repeat (first | (with_reducible first | exact HB.out | apply below_alloc | apply pw_below_drewN | apply below_drew1 | refine below_set ?_ GE888.out | refine below_set ?_ GE889.out) | exact HB.out)))); have n2_ := Aside0.mk (blk_below (g := gb888) (o := .cells #[.int .i64 t874, .int .i64 t875, .slice Ao15 t876.length co15] 25 (0, 0)) (by (with_reducible repeat (first | refine blk_drewN ?_ _ | refine blk_drew ?_ | refine blk_alloc ?_ _)); refine blk_far ?_ NB888_889.out _; (with_reducible repeat (first | refine blk_drewN ?_ _ | refine blk_drew ?_ | refine blk_alloc ?_ _)); refine blk_far ?_ NB888_889.out _; (with_reducible repeat (first | refine blk_drewN ?_ _ | refine blk_drew ?_ | refine blk_alloc ?_ _)); refine blk_far ?_ NB888_889.out _; (with_reducible repeat (first | refine blk_drewN ?_ _ | refine blk_drew ?_ | refine blk_alloc ?_ _)); refine blk_far ?_ NB888_889.out _; (with_reducible repeat (first | refine blk_drewN ?_ _ | refine blk_drew ?_ | refine blk_alloc ?_ _)); refine blk_far ?_ NB888_889.out _; (with_reducible repeat (first | refine blk_drewN ?_ _ | refine blk_drew ?_ | refine blk_alloc ?_ _)); refine blk_far ?_ NB888_889.out _; (with_reducible repeat (first | refine blk_drewN ?_ _ | refine blk_drew ?_ | refine blk_alloc ?_ _)); refine blk_far ?_ NB888_889.out _; (with_reducible repeat (first | refine blk_drewN ?_ _ | refine blk_drew ?_ | refine blk_alloc ?_ _)); refine blk_far ?_ NB888_889.out _; (with_reducible repeat (first | refine blk_drewN ?_ _ | refine blk_drew ?_ | refine blk_alloc ?_ _)); refine blk_put (cs := #[.int .i64 t874, .int .i64 t875, .slice none 0 0]) ?_ 2 _ rfl; (with_reducible repeat (first | refine blk_drewN ?_ _ | refine blk_drew ?_ | refine blk_alloc ?_ _)); refine blk_put (cs := #[.int .i64 t874, .int .i64 0, .slice none 0 0]) ?_ 1 _ rfl; (with_reducible repeat (first | refine blk_drewN ?_ _ | refine blk_drew ?_ | refine blk_alloc ?_ _)); refine blk_put (cs := #[.int .i64 0, .int .i64 0, .slice none 0 0]) ?_ 0 _ rfl; (with_reducible repeat (first | refine blk_drewN ?_ _ | refine blk_drew ?_ | refine blk_alloc ?_ _)); exact BK888.out) hb); have n3_ := Aside0.mk (blk_below (g := gb889) (o := .cells #[.int .i64 t879, .int .i64 t880, .int .i64 t881, .int .i64 t882, .int .i64 t883, .int .i64 t884, .int .i64 t885, .int .i64 t886] 41 (0, 0)) (by (with_reducible repeat (first | refine blk_drewN ?_ _ | refine blk_drew ?_ | refine blk_alloc ?_ _)); refine blk_put (cs := #[.int .i64 t879, .int .i64 t880, .int .i64 t881, .int .i64 t882, .int .i64 t883, .int .i64 t884, .int .i64 t885, .int .i64 0]) ?_ 7 _ rfl; (with_reducible repeat (first | refine blk_drewN ?_ _ | refine blk_drew ?_ | refine blk_alloc ?_ _)); refine blk_put (cs := #[.int .i64 t879, .int .i64 t880, .int .i64 t881, .int .i64 t882, .int .i64 t883, .int .i64 t884, .int .i64 0, .int .i64 0]) ?_ 6 _ rfl; (with_reducible repeat (first | refine blk_drewN ?_ _ | refine blk_drew ?_ | refine blk_alloc ?_ _)); refine blk_put (cs := #[.int .i64 t879, .int .i64 t880, .int .i64 t881, .int .i64 t882, .int .i64 t883, .int .i64 0, .int .i64 0, .int .i64 0]) ?_ 5 _ rfl; (with_reducible repeat (first | refine blk_drewN ?_ _ | refine blk_drew ?_ | refine blk_alloc ?_ _)); refine blk_put (cs := #[.int .i64 t879, .int .i64 t880, .int .i64 t881, .int .i64 t882, .int .i64 0, .int .i64 0, .int .i64 0, .int .i64 0]) ?_ 4 _ rfl; (with_reducible repeat (first | refine blk_drewN ?_ _ | refine blk_drew ?_ | refine blk_alloc ?_ _)); refine blk_put (cs := #[.int .i64 t879, .int .i64 t880, .int .i64 t881, .int .i64 0, .int .i64 0, .int .i64 0, .int .i64 0, .int .i64 0]) ?_ 3 _ rfl; (with_reducible repeat (first | refine blk_drewN ?_ _ | refine blk_drew ?_ | refine blk_alloc ?_ _)); refine blk_put (cs := #[.int .i64 t879, .int .i64 t880, .int .i64 0, .int .i64 0, .int .i64 0, .int .i64 0, .int .i64 0, .int .i64 0]) ?_ 2 _ rfl; (with_reducible repeat (first | refine blk_drewN ?_ _ | refine blk_drew ?_ | refine blk_alloc ?_ _)); refine blk_put (cs := #[.int .i64 t879, .int .i64 0, .int .i64 0, .int .i64 0, .int .i64 0, .int .i64 0, .int .i64 0, .int .i64 0]) ?_ 1 _ rfl; (with_reducible repeat (first | refine blk_drewN ?_ _ | refine blk_drew ?_ | refine blk_alloc ?_ _)); refine blk_put (cs := #[.int .i64 0, .int .i64 0, .int .i64 0, .int .i64 0, .int .i64 0, .int .i64 0, .int .i64 0, .int .i64 0]) ?_ 0 _ rfl; (with_reducible repeat (first | refine blk_drewN ?_ _ | refine blk_drew ?_ | refine blk_alloc ?_ _)); refine blk_far ?_ NB889_888.out _; (with_reducible repeat (first | refine blk_drewN ?_ _ | refine blk_drew ?_ | refine blk_alloc ?_ _)); refine blk_far ?_ NB889_888.out _; (with_reducible repeat (first | refine blk_drewN ?_ _ | refine blk_drew ?_ | refine blk_alloc ?_ _)); refine blk_far ?_ NB889_888.out _; (with_reducible repeat (first | refine blk_drewN ?_ _ | refine blk_drew ?_ | refine blk_alloc ?_ _)); exact BK889.out) hb); have n4_ := Aside0.mk (below_step (by repeat (first | (with_reducible first | exact HB.out | apply below_alloc | apply pw_below_drewN | apply below_drew1 | refine below_set ?_ GE888.out | refine below_set ?_ GE889.out) | exact HB.out)) hb); clear HO878; clear BK888; clear BK889; clear HB; have HO878 := n0_; have HO894 := n1_; have BK888 := n2_; have BK889 := n3_; have HB := n4_; clear n0_ n1_ n2_ n3_ n4_; (try clear hb); (try clear hb2); (try clear hk); (try clear hi); (try clear ho0)) | ((with_reducible refine gate_dst (N := 8) rfl ?_); (try (refine gate_guard (by rfl) ?_; dsimp only)); refine box_event ?hg (N := 8) ?hd (cs := #[.int .i64 0, .int .i64 0, .slice none 0 0]) (t := 25) ?hr ?_; (case hd => rfl); (case hg => rfl); (case hr => first | (go_simp; done) | (go_simp; rfl)); intro gb896 hg w18 hbox hb; have n0_ := Aside0.mk (Kd.Q_below (by (with_reducible repeat (first | apply Kd.Q_alloc | apply Kd.Q_drewN | apply Kd.Q_drew)); exact HO878.out) hb); have n1_ := Aside0.mk (Kd.R_below (by (with_reducible repeat (first | apply Kd.R_alloc | apply Kd.R_drewN | apply Kd.R_drew)); exact HO894.out) hb); have n2_ := Aside0.mk (blk_below (g := gb888) (o := .cells #[.int .i64 t874, .int .i64 t875, .slice Ao15 t876.length co15] 25 (0, 0)) (by (with_reducible repeat (first | refine blk_drewN ?_ _ | refine blk_drew ?_ | refine blk_alloc ?_ _)); exact BK888.out) hb); have n3_ := Aside0.mk (blk_below (g := gb889) (o := .cells #[.int .i64 t879, .int .i64 t880, .int .i64 t881, .int .i64 t882, .int .i64 t883, .int .i64 t884, .int .i64 t885, .int .i64 t886] 41 (0, 0)) (by (with_reducible repeat (first | refine blk_drewN ?_ _ | refine blk_drew ?_ | refine blk_alloc ?_ _)); exact BK889.out) hb); have n4_ := Aside0.mk (below_step (by repeat (first | (with_reducible first | exact HB.out | apply below_alloc | apply pw_below_drewN | apply below_drew1 | refine below_set ?_ GE888.out | refine below_set ?_ GE889.out) | exact HB.out)) hb); have n5_ := Aside0.mk (hbox); have n6_ := Aside0.mk ((by rw [hg]; exact (below_size (by repeat (first | (with_reducible first | exact HB.out | apply below_alloc | apply pw_below_drewN | apply below_drew1 | refine below_set ?_ GE888.out | refine below_set ?_ GE889.out) | exact HB.out))) : w.heap.size ≤ gb896)); have n7_ := Aside0.mk ((by rw [hg]; exact (below_size (by repeat (first | (with_reducible first | exact HB.out | apply below_alloc | apply pw_below_drewN | apply below_drew1 | refine below_set ?_ GE888.out | refine below_set ?_ GE889.out) | exact HB.out))) : w.heap.size ≤ gb896)); have n8_ := Aside0.mk ((by rw [hg]; exact Nat.ne_of_lt (blk_lt (g := gb888) (o := .cells #[.int .i64 t874, .int .i64 t875, .slice Ao15 t876.length co15] 25 (0, 0)) (by (with_reducible repeat (first | refine blk_drewN ?_ _ | refine blk_drew ?_ | refine blk_alloc ?_ _)); exact BK888.out)) : gb888 ≠ gb896)); have n9_ := Aside0.mk ((by rw [hg]; exact Nat.ne_of_gt (blk_lt (g := gb888) (o := .cells #[.int .i64 t874, .int .i64 t875, .slice Ao15 t876.length co15] 25 (0, 0)) (by (with_reducible repeat (first | refine blk_drewN ?_ _ | refine blk_drew ?_ | refine blk_alloc ?_ _)); exact BK888.out)) : gb896 ≠ gb888)); have n10_ := Aside0.mk ((by rw [hg]; exact Nat.ne_of_lt (blk_lt (g := gb889) (o := .cells #[.int .i64 t879, .int .i64 t880, .int .i64 t881, .int .i64 t882, .int .i64 t883, .int .i64 t884, .int .i64 t885, .int .i64 t886] 41 (0, 0)) (by (with_reducible repeat (first | refine blk_drewN ?_ _ | refine blk_drew ?_ | refine blk_alloc ?_ _)); exact BK889.out)) : gb889 ≠ gb896)); have n11_ := Aside0.mk ((by rw [hg]; exact Nat.ne_of_gt (blk_lt (g := gb889) (o := .cells #[.int .i64 t879, .int .i64 t880, .int .i64 t881, .int .i64 t882, .int .i64 t883, .int .i64 t884, .int .i64 t885, .int .i64 t886] 41 (0, 0)) (by (with_reducible repeat (first | refine blk_drewN ?_ _ | refine blk_drew ?_ | refine blk_alloc ?_ _)); exact BK889.out)) : gb896 ≠ gb889)); clear HO878; clear HO894; clear BK888; clear BK889; clear HB; have HO878 := n0_; have HO894 := n1_; have BK888 := n2_; have BK889 := n3_; have HB := n4_; have BK896 := n5_; have GW896 := n6_; have GE896 := n7_; have NB888_896 := n8_; have NB896_888 := n9_; have NB889_896 := n10_; have NB896_889 := n11_; clear n0_ n1_ n2_ n3_ n4_ n5_ n6_ n7_ n8_ n9_ n10_ n11_; clear hb hbox hg; have hnb19 := NB896_888.out; have hnc19 := NB888_896.out; have hnb20 := NB896_889.out; have hnc20 := NB889_896.out; have hcz21_0 : w18.cell? ⟨gb896, 0, none⟩ = some (.int .i64 0) := (blk_cell BK896.out 0).trans rfl; have hcz21_1 : w18.cell? ⟨gb896, 1, none⟩ = some (.int .i64 0) := (blk_cell BK896.out 1).trans rfl; have hcz21_2 : w18.cell? ⟨gb896, 2, none⟩ = some (.slice none 0 0) := (blk_cell BK896.out 2).trans rfl; have hfz21_0 := blk_frozen BK896.out 0; have hfz21_1 := blk_frozen BK896.out 1; have hfz21_2 := blk_frozen BK896.out 2; obtain ⟨Ao22, co22, eo22⟩ := Kd.R_slice HO894.out; subst eo22; have hcz23_0 : w18.cell? ⟨gb888, 0, none⟩ = some (.int .i64 t874) := (blk_cell BK888.out 0).trans rfl; have hcz23_1 : w18.cell? ⟨gb888, 1, none⟩ = some (.int .i64 t875) := (blk_cell BK888.out 1).trans rfl; have hcz23_2 : w18.cell? ⟨gb888, 2, none⟩ = some (.slice Ao15 t876.length co15) := (blk_cell BK888.out 2).trans rfl; have hfz23_0 := blk_frozen BK888.out 0; have hfz23_1 := blk_frozen BK888.out 1; have hfz23_2 := blk_frozen BK888.out 2; have hcz24_0 : w18.cell? ⟨gb889, 0, none⟩ = some (.int .i64 t879) := (blk_cell BK889.out 0).trans rfl; have hcz24_1 : w18.cell? ⟨gb889, 1, none⟩ = some (.int .i64 t880) := (blk_cell BK889.out 1).trans rfl; have hcz24_2 : w18.cell? ⟨gb889, 2, none⟩ = some (.int .i64 t881) := (blk_cell BK889.out 2).trans rfl; have hcz24_3 : w18.cell? ⟨gb889, 3, none⟩ = some (.int .i64 t882) := (blk_cell BK889.out 3).trans rfl; have hcz24_4 : w18.cell? ⟨gb889, 4, none⟩ = some (.int .i64 t883) := (blk_cell BK889.out 4).trans rfl; have hcz24_5 : w18.cell? ⟨gb889, 5, none⟩ = some (.int .i64 t884) := (blk_cell BK889.out 5).trans rfl; have hcz24_6 : w18.cell? ⟨gb889, 6, none⟩ = some (.int .i64 t885) := (blk_cell BK889.out 6).trans rfl; have hcz24_7 : w18.cell? ⟨gb889, 7, none⟩ = some (.int .i64 t886) := (blk_cell BK889.out 7).trans rfl; have hfz24_0 := blk_frozen BK889.out 0; have hfz24_1 := blk_frozen BK889.out 1; have hfz24_2 := blk_frozen BK889.out 2; have hfz24_3 := blk_frozen BK889.out 3; have hfz24_4 := blk_frozen BK889.out 4; have hfz24_5 := blk_frozen BK889.out 5; have hfz24_6 := blk_frozen BK889.out 6; have hfz24_7 := blk_frozen BK889.out 7) | ((with_reducible refine gate_callee (f := 42) rfl ?_); refine goesL_ (some 43) rfl rfl Try.func42 (by kernel_rfl) rfl #[.agg #[.int .i64 t874, .int .i64 t875, .slice Ao15 t876.length co15], .agg #[.int .i64 t879, .int .i64 t880, .int .i64 t881, .int .i64 t882, .int .i64 t883, .int .i64 t884, .int .i64 t885, .int .i64 t886], .int .i64 t887] rfl (by (try simp only [List.map_toArray, List.map_cons, List.map_nil]); first | done | rfl | (simp only [List.length_drop, List.length_take]; rfl)) ?_; (with_reducible refine (impl_RecDo.calls kj2 t874 t875 _ _ t876 t879 t880 t881 t882 t883 t884 t885 t886 t887 t897 t898 t899 t902 _ ?side1 ?side2 A8.out).mono ?_); (case side1 => refine (Kd.Q_reads' (e := 3) (base := w.heap.size) (ok := fun k_ => (True ∧ some k_ ≠ (.slice Ao22 t892.length co22 : Value).ownBlock)) (n := t876.length) (c := co15) ?_).2.2; exact (by (with_reducible repeat (first | apply Kd.Q_alloc | apply Kd.Q_drewN | apply Kd.Q_drew)); exact (Kd.Q_mono (Kd.Q_far (p := ⟨gb896, 2, none⟩) (Kd.Q_far (p := ⟨gb896, 1, none⟩) (Kd.Q_far (p := ⟨gb896, 0, none⟩) (Kd.Q_types HO878.out BK896.out (by decide)) (fun _ hk => hk.2) (.int .i64 t890)) (fun _ hk => hk.2) (.int .i64 t891)) (fun _ hk => hk.2) (.slice Ao22 t892.length co22)) (fun _ h_ => h_.1)))); (case side2 => exact (Kd.Q_reads' HO878.out).2.1); rintro e w25 ⟨v900, rfl, ho0, hb⟩; refine ⟨_, rfl, ?_⟩; have n0_ := Aside0.mk (Kd.Q_elder' (by (with_reducible repeat (first | apply Kd.Q_alloc | apply Kd.Q_drewN | apply Kd.Q_drew)); exact (Kd.Q_mono (Kd.Q_far (p := ⟨gb896, 2, none⟩) (Kd.Q_far (p := ⟨gb896, 1, none⟩) (Kd.Q_far (p := ⟨gb896, 0, none⟩) (Kd.Q_types HO878.out BK896.out (by decide)) (fun _ hk => hk.2) (.int .i64 t890)) (fun _ hk => hk.2) (.int .i64 t891)) (fun _ hk => hk.2) (.slice Ao22 t892.length co22)) (fun _ h_ => h_.1))) (Kd.R_base ho0) hb); have n1_ := Aside0.mk (Kd.R_elder' (by (with_reducible repeat (first | apply Kd.R_alloc | apply Kd.R_drewN | apply Kd.R_drew)); exact (Kd.R_mono (Kd.R_far (p := ⟨gb896, 2, none⟩) (Kd.R_far (p := ⟨gb896, 1, none⟩) (Kd.R_far (p := ⟨gb896, 0, none⟩) (Kd.R_types HO894.out BK896.out (by decide)) (fun _ hk => hk.2) (.int .i64 t890)) (fun _ hk => hk.2) (.int .i64 t891)) (fun _ hk => hk.2) (.slice Ao22 t892.length co22)) (fun _ h_ => h_.1))) (Kd.R_base ho0) hb); have n2_ := Aside0.mk (Kd.R_lower (Kd.R_new' (Kd.R_new' ho0 (Kd.Q_lt (by (with_reducible repeat (first | apply Kd.Q_alloc | apply Kd.Q_drewN | apply Kd.Q_drew)); exact (Kd.Q_mono (Kd.Q_far (p := ⟨gb896, 2, none⟩) (Kd.Q_far (p := ⟨gb896, 1, none⟩) (Kd.Q_far (p := ⟨gb896, 0, none⟩) (Kd.Q_types HO878.out BK896.out (by decide)) (fun _ hk => hk.2) (.int .i64 t890)) (fun _ hk => hk.2) (.int .i64 t891)) (fun _ hk => hk.2) (.slice Ao22 t892.length co22)) (fun _ h_ => h_.1))))) (Kd.R_lt (by (with_reducible repeat (first | apply Kd.R_alloc | apply Kd.R_drewN | apply Kd.R_drew)); exact (Kd.R_mono (Kd.R_far (p := ⟨gb896, 2, none⟩) (Kd.R_far (p := ⟨gb896, 1, none⟩) (Kd.R_far (p := ⟨gb896, 0, none⟩) (Kd.R_types HO894.out BK896.out (by decide)) (fun _ hk => hk.2) (.int .i64 t890)) (fun _ hk => hk.2) (.int .i64 t891)) (fun _ hk => hk.2) (.slice Ao22 t892.length co22)) (fun _ h_ => h_.1))))) (below_size (by repeat (first | (with_reducible first | exact HB.out | apply below_alloc | apply pw_below_drewN | apply below_drew1 | refine below_set ?_ GE888.out | refine below_set ?_ GE889.out | refine below_set ?_ GE896.out) | exact HB.out)))); have n3_ := Aside0.mk (blk_below (g := gb888) (o := .cells #[.int .i64 t874, .int .i64 t875, .slice Ao15 t876.length co15] 25 (0, 0)) (by (with_reducible repeat (first | refine blk_drewN ?_ _ | refine blk_drew ?_ | refine blk_alloc ?_ _)); refine blk_far ?_ NB888_896.out _; (with_reducible repeat (first | refine blk_drewN ?_ _ | refine blk_drew ?_ | refine blk_alloc ?_ _)); refine blk_far ?_ NB888_896.out _; (with_reducible repeat (first | refine blk_drewN ?_ _ | refine blk_drew ?_ | refine blk_alloc ?_ _)); refine blk_far ?_ NB888_896.out _; (with_reducible repeat (first | refine blk_drewN ?_ _ | refine blk_drew ?_ | refine blk_alloc ?_ _)); exact BK888.out) hb); have n4_ := Aside0.mk (blk_below (g := gb889) (o := .cells #[.int .i64 t879, .int .i64 t880, .int .i64 t881, .int .i64 t882, .int .i64 t883, .int .i64 t884, .int .i64 t885, .int .i64 t886] 41 (0, 0)) (by (with_reducible repeat (first | refine blk_drewN ?_ _ | refine blk_drew ?_ | refine blk_alloc ?_ _)); refine blk_far ?_ NB889_896.out _; (with_reducible repeat (first | refine blk_drewN ?_ _ | refine blk_drew ?_ | refine blk_alloc ?_ _)); refine blk_far ?_ NB889_896.out _; (with_reducible repeat (first | refine blk_drewN ?_ _ | refine blk_drew ?_ | refine blk_alloc ?_ _)); refine blk_far ?_ NB889_896.out _; (with_reducible repeat (first | refine blk_drewN ?_ _ | refine blk_drew ?_ | refine blk_alloc ?_ _)); exact BK889.out) hb); have n5_ := Aside0.mk (blk_below (g := gb896) (o := .cells #[.int .i64 t890, .int .i64 t891, .slice Ao22 t892.length co22] 25 (0, 0)) (by (with_reducible repeat (first | refine blk_drewN ?_ _ | refine blk_drew ?_ | refine blk_alloc ?_ _)); refine blk_put (cs := #[.int .i64 t890, .int .i64 t891, .slice none 0 0]) ?_ 2 _ rfl; (with_reducible repeat (first | refine blk_drewN ?_ _ | refine blk_drew ?_ | refine blk_alloc ?_ _)); refine blk_put (cs := #[.int .i64 t890, .int .i64 0, .slice none 0 0]) ?_ 1 _ rfl; (with_reducible repeat (first | refine blk_drewN ?_ _ | refine blk_drew ?_ | refine blk_alloc ?_ _)); refine blk_put (cs := #[.int .i64 0, .int .i64 0, .slice none 0 0]) ?_ 0 _ rfl; (with_reducible repeat (first | refine blk_drewN ?_ _ | refine blk_drew ?_ | refine blk_alloc ?_ _)); exact BK896.out) hb); have n6_ := Aside0.mk (below_step (by repeat (first | (with_reducible first | exact HB.out | apply below_alloc | apply pw_below_drewN | apply below_drew1 | refine below_set ?_ GE888.out | refine below_set ?_ GE889.out | refine below_set ?_ GE896.out) | exact HB.out)) hb); clear HO878; clear HO894; clear BK888; clear BK889; clear BK896; clear HB; have HO878 := n0_; have HO894 := n1_; have HO901 := n2_; have BK888 := n3_; have BK889 := n4_; have BK896 := n5_; have HB := n6_; clear n0_ n1_ n2_ n3_ n4_ n5_ n6_; (try clear hb); (try clear hb2); (try clear hk); (try clear hi); (try clear ho0)) | ((with_reducible refine gate_dst (N := 10) rfl ?_); (try (refine gate_guard (by rfl) ?_; dsimp only)); refine box_event ?hg (N := 10) ?hd (cs := #[.int .i64 0, .int .i64 0, .slice none 0 0]) (t := 25) ?hr ?_; (case hd => rfl); (case hg => rfl); (case hr => first | (go_simp; done) | (go_simp; rfl)); intro gb903 hg w26 hbox hb; have n0_ := Aside0.mk (Kd.Q_below (by (with_reducible repeat (first | apply Kd.Q_alloc | apply Kd.Q_drewN | apply Kd.Q_drew)); exact HO878.out) hb); have n1_ := Aside0.mk (Kd.R_below (by (with_reducible repeat (first | apply Kd.R_alloc | apply Kd.R_drewN | apply Kd.R_drew)); exact HO894.out) hb); have n2_ := Aside0.mk (Kd.R_below (by (with_reducible repeat (first | apply Kd.R_alloc | apply Kd.R_drewN | apply Kd.R_drew)); exact HO901.out) hb); have n3_ := Aside0.mk (blk_below (g := gb888) (o := .cells #[.int .i64 t874, .int .i64 t875, .slice Ao15 t876.length co15] 25 (0, 0)) (by (with_reducible repeat (first | refine blk_drewN ?_ _ | refine blk_drew ?_ | refine blk_alloc ?_ _)); exact BK888.out) hb); have n4_ := Aside0.mk (blk_below (g := gb889) (o := .cells #[.int .i64 t879, .int .i64 t880, .int .i64 t881, .int .i64 t882, .int .i64 t883, .int .i64 t884, .int .i64 t885, .int .i64 t886] 41 (0, 0)) (by (with_reducible repeat (first | refine blk_drewN ?_ _ | refine blk_drew ?_ | refine blk_alloc ?_ _)); exact BK889.out) hb); have n5_ := Aside0.mk (blk_below (g := gb896) (o := .cells #[.int .i64 t890, .int .i64 t891, .slice Ao22 t892.length co22] 25 (0, 0)) (by (with_reducible repeat (first | refine blk_drewN ?_ _ | refine blk_drew ?_ | refine blk_alloc ?_ _)); exact BK896.out) hb); have n6_ := Aside0.mk (below_step (by repeat (first | (with_reducible first | exact HB.out | apply below_alloc | apply pw_below_drewN | apply below_drew1 | refine below_set ?_ GE888.out | refine below_set ?_ GE889.out | refine below_set ?_ GE896.out) | exact HB.out)) hb); have n7_ := Aside0.mk (hbox); have n8_ := Aside0.mk ((by rw [hg]; exact (below_size (by repeat (first | (with_reducible first | exact HB.out | apply below_alloc | apply pw_below_drewN | apply below_drew1 | refine below_set ?_ GE888.out | refine below_set ?_ GE889.out | refine below_set ?_ GE896.out) | exact HB.out))) : w.heap.size ≤ gb903)); have n9_ := Aside0.mk ((by rw [hg]; exact (below_size (by repeat (first | (with_reducible first | exact HB.out | apply below_alloc | apply pw_below_drewN | apply below_drew1 | refine below_set ?_ GE888.out | refine below_set ?_ GE889.out | refine below_set ?_ GE896.out) | exact HB.out))) : w.heap.size ≤ gb903)); have n10_ := Aside0.mk ((by rw [hg]; exact Nat.ne_of_lt (blk_lt (g := gb888) (o := .cells #[.int .i64 t874, .int .i64 t875, .slice Ao15 t876.length co15] 25 (0, 0)) (by (with_reducible repeat (first | refine blk_drewN ?_ _ | refine blk_drew ?_ | refine blk_alloc ?_ _)); exact BK888.out)) : gb888 ≠ gb903)); have n11_ := Aside0.mk ((by rw [hg]; exact Nat.ne_of_gt (blk_lt (g := gb888) (o := .cells #[.int .i64 t874, .int .i64 t875, .slice Ao15 t876.length co15] 25 (0, 0)) (by (with_reducible repeat (first | refine blk_drewN ?_ _ | refine blk_drew ?_ | refine blk_alloc ?_ _)); exact BK888.out)) : gb903 ≠ gb888)); have n12_ := Aside0.mk ((by rw [hg]; exact Nat.ne_of_lt (blk_lt (g := gb889) (o := .cells #[.int .i64 t879, .int .i64 t880, .int .i64 t881, .int .i64 t882, .int .i64 t883, .int .i64 t884, .int .i64 t885, .int .i64 t886] 41 (0, 0)) (by (with_reducible repeat (first | refine blk_drewN ?_ _ | refine blk_drew ?_ | refine blk_alloc ?_ _)); exact BK889.out)) : gb889 ≠ gb903)); have n13_ := Aside0.mk ((by rw [hg]; exact Nat.ne_of_gt (blk_lt (g := gb889) (o := .cells #[.int .i64 t879, .int .i64 t880, .int .i64 t881, .int .i64 t882, .int .i64 t883, .int .i64 t884, .int .i64 t885, .int .i64 t886] 41 (0, 0)) (by (with_reducible repeat (first | refine blk_drewN ?_ _ | refine blk_drew ?_ | refine blk_alloc ?_ _)); exact BK889.out)) : gb903 ≠ gb889)); have n14_ := Aside0.mk ((by rw [hg]; exact Nat.ne_of_lt (blk_lt (g := gb896) (o := .cells #[.int .i64 t890, .int .i64 t891, .slice Ao22 t892.length co22] 25 (0, 0)) (by (with_reducible repeat (first | refine blk_drewN ?_ _ | refine blk_drew ?_ | refine blk_alloc ?_ _)); exact BK896.out)) : gb896 ≠ gb903)); have n15_ := Aside0.mk ((by rw [hg]; exact Nat.ne_of_gt (blk_lt (g := gb896) (o := .cells #[.int .i64 t890, .int .i64 t891, .slice Ao22 t892.length co22] 25 (0, 0)) (by (with_reducible repeat (first | refine blk_drewN ?_ _ | refine blk_drew ?_ | refine blk_alloc ?_ _)); exact BK896.out)) : gb903 ≠ gb896)); clear HO878; clear HO894; clear HO901; clear BK888; clear BK889; clear BK896; clear HB; have HO878 := n0_; have HO894 := n1_; have HO901 := n2_; have BK888 := n3_; have BK889 := n4_; have BK896 := n5_; have HB := n6_; have BK903 := n7_; have GW903 := n8_; have GE903 := n9_; have NB888_903 := n10_; have NB903_888 := n11_; have NB889_903 := n12_; have NB903_889 := n13_; have NB896_903 := n14_; have NB903_896 := n15_; clear n0_ n1_ n2_ n3_ n4_ n5_ n6_ n7_ n8_ n9_ n10_ n11_ n12_ n13_ n14_ n15_; clear hb hbox hg; have hnb27 := NB903_888.out; have hnc27 := NB888_903.out; have hnb28 := NB903_889.out; have hnc28 := NB889_903.out; have hnb29 := NB903_896.out; have hnc29 := NB896_903.out; have hcz30_0 : w26.cell? ⟨gb903, 0, none⟩ = some (.int .i64 0) := (blk_cell BK903.out 0).trans rfl; have hcz30_1 : w26.cell? ⟨gb903, 1, none⟩ = some (.int .i64 0) := (blk_cell BK903.out 1).trans rfl; have hcz30_2 : w26.cell? ⟨gb903, 2, none⟩ = some (.slice none 0 0) := (blk_cell BK903.out 2).trans rfl; have hfz30_0 := blk_frozen BK903.out 0; have hfz30_1 := blk_frozen BK903.out 1; have hfz30_2 := blk_frozen BK903.out 2; obtain ⟨Ao31, co31, eo31⟩ := Kd.R_slice HO901.out; subst eo31))
        (try simp only [Act.put, List.setIfInBounds_toArray, List.set_cons_zero, List.set_cons_succ])
        go_cut [59] (fun v59 wc => ∃ (kq : Nat) (x59_8 : Bool), v59 = .bool x59_8 ∧ Aside0 (laws_FnRecKinds.j1 kq l1 t895 t902 x59_8 t874 t875 t876 t879 t880 t881 t882 t883 t884 t885 t886 t890 t891 t892 t897 t898 t899 = some r) ∧ Aside0 (kq ≤ kj2) ∧ Aside0 (Kd.Q (Kd.int .i64) 3 wc w.heap.size (fun k_ => some k_ ≠ ((.slice Ao22 t892.length co22) : Value).ownBlock ∧ some k_ ≠ ((.slice Ao31 t899.length co31) : Value).ownBlock) (.slice Ao15 t876.length co15) t876) ∧ Aside0 (Kd.Q (Kd.int .i64) 3 wc w.heap.size (fun k_ => some k_ ≠ ((.slice Ao15 t876.length co15) : Value).ownBlock ∧ some k_ ≠ ((.slice Ao31 t899.length co31) : Value).ownBlock) (.slice Ao22 t892.length co22) t892) ∧ Aside0 (Kd.Q (Kd.int .i64) 3 wc w.heap.size (fun k_ => some k_ ≠ ((.slice Ao15 t876.length co15) : Value).ownBlock ∧ some k_ ≠ ((.slice Ao22 t892.length co22) : Value).ownBlock) (.slice Ao31 t899.length co31) t899) ∧ Aside0 (wc.heap[gb888]? = some (.cells #[.int .i64 t874, .int .i64 t875, (.slice Ao15 t876.length co15)] 25 (0, 0))) ∧ Aside0 (wc.heap[gb889]? = some (.cells #[.int .i64 t879, .int .i64 t880, .int .i64 t881, .int .i64 t882, .int .i64 t883, .int .i64 t884, .int .i64 t885, .int .i64 t886] 41 (0, 0))) ∧ Aside0 (wc.heap[gb896]? = some (.cells #[.int .i64 t890, .int .i64 t891, (.slice Ao22 t892.length co22)] 25 (0, 0))) ∧ Aside0 (wc.heap[gb903]? = some (.cells #[.int .i64 t897, .int .i64 t898, (.slice Ao31 t899.length co31)] 25 (0, 0))) ∧ Aside0 (Below w.heap.size w wc))
        case first =>
          have H := HC9.out
          clear HC9
          by_cases c32 : (t902 != t895) = true
          · rw [if_pos c32] at H
            have c32b0 : (t902 != t895) = true := c32
            (try (have c32b1 : decide (t902 = t895) = false := by simpa using c32))
            (try (have c32b2 : (t902 == t895) = false := by simpa using c32))
            (try (have c32b3 : ¬ (t902 = t895) := by simpa using c32))
            clear c32
            (first | rw [c32b0] | (simp only [i64_w, i32_w]; rw [c32b0]) | skip)
            have H' := Aside0.mk H
            clear H
            go_wp2
            go_meet
            case rel => exact ⟨_, (true), (by first | rfl | (simp; done) | (simp [*]; done)), H', ⟨by have := HJ2.out; first | omega | exact Nat.le_refl _⟩, ⟨by (with_reducible repeat (first | apply Kd.Q_alloc | apply Kd.Q_drewN | apply Kd.Q_drew)); exact Kd.Q_mono (Kd.Q_far (p := ⟨gb903, 2, none⟩) (Kd.Q_far (p := ⟨gb903, 1, none⟩) (Kd.Q_far (p := ⟨gb903, 0, none⟩) (Kd.Q_types HO878.out BK903.out (by decide)) (fun _ hk => hk.2) (.int .i64 t897)) (fun _ hk => hk.2) (.int .i64 t898)) (fun _ hk => hk.2) (.slice Ao31 t899.length co31)) (fun _ hk => ⟨hk.1.1.2, hk.1.2⟩)⟩, ⟨Kd.Q_of_R (by (with_reducible repeat (first | apply Kd.R_alloc | apply Kd.R_drewN | apply Kd.R_drew)); exact Kd.R_mono (Kd.R_far (p := ⟨gb903, 2, none⟩) (Kd.R_far (p := ⟨gb903, 1, none⟩) (Kd.R_far (p := ⟨gb903, 0, none⟩) (Kd.R_types HO894.out BK903.out (by decide)) (fun _ hk => hk.2) (.int .i64 t897)) (fun _ hk => hk.2) (.int .i64 t898)) (fun _ hk => hk.2) (.slice Ao31 t899.length co31)) (fun _ hk => ⟨hk.1.1.2, hk.1.2⟩))⟩, ⟨Kd.Q_of_R (by (with_reducible repeat (first | apply Kd.R_alloc | apply Kd.R_drewN | apply Kd.R_drew)); exact Kd.R_mono (Kd.R_far (p := ⟨gb903, 2, none⟩) (Kd.R_far (p := ⟨gb903, 1, none⟩) (Kd.R_far (p := ⟨gb903, 0, none⟩) (Kd.R_types HO901.out BK903.out (by decide)) (fun _ hk => hk.2) (.int .i64 t897)) (fun _ hk => hk.2) (.int .i64 t898)) (fun _ hk => hk.2) (.slice Ao31 t899.length co31)) (fun _ hk => ⟨hk.1.1.2, hk.1.2⟩))⟩, ⟨by (with_reducible repeat (first | refine blk_drewN ?_ _ | refine blk_drew ?_ | refine blk_alloc ?_ _)); refine blk_far ?_ NB888_903.out _; (with_reducible repeat (first | refine blk_drewN ?_ _ | refine blk_drew ?_ | refine blk_alloc ?_ _)); refine blk_far ?_ NB888_903.out _; (with_reducible repeat (first | refine blk_drewN ?_ _ | refine blk_drew ?_ | refine blk_alloc ?_ _)); refine blk_far ?_ NB888_903.out _; (with_reducible repeat (first | refine blk_drewN ?_ _ | refine blk_drew ?_ | refine blk_alloc ?_ _)); exact BK888.out⟩, ⟨by (with_reducible repeat (first | refine blk_drewN ?_ _ | refine blk_drew ?_ | refine blk_alloc ?_ _)); refine blk_far ?_ NB889_903.out _; (with_reducible repeat (first | refine blk_drewN ?_ _ | refine blk_drew ?_ | refine blk_alloc ?_ _)); refine blk_far ?_ NB889_903.out _; (with_reducible repeat (first | refine blk_drewN ?_ _ | refine blk_drew ?_ | refine blk_alloc ?_ _)); refine blk_far ?_ NB889_903.out _; (with_reducible repeat (first | refine blk_drewN ?_ _ | refine blk_drew ?_ | refine blk_alloc ?_ _)); exact BK889.out⟩, ⟨by (with_reducible repeat (first | refine blk_drewN ?_ _ | refine blk_drew ?_ | refine blk_alloc ?_ _)); refine blk_far ?_ NB896_903.out _; (with_reducible repeat (first | refine blk_drewN ?_ _ | refine blk_drew ?_ | refine blk_alloc ?_ _)); refine blk_far ?_ NB896_903.out _; (with_reducible repeat (first | refine blk_drewN ?_ _ | refine blk_drew ?_ | refine blk_alloc ?_ _)); refine blk_far ?_ NB896_903.out _; (with_reducible repeat (first | refine blk_drewN ?_ _ | refine blk_drew ?_ | refine blk_alloc ?_ _)); exact BK896.out⟩, ⟨by (with_reducible repeat (first | refine blk_drewN ?_ _ | refine blk_drew ?_ | refine blk_alloc ?_ _)); refine blk_put (cs := #[.int .i64 t897, .int .i64 t898, .slice none 0 0]) ?_ 2 _ rfl; (with_reducible repeat (first | refine blk_drewN ?_ _ | refine blk_drew ?_ | refine blk_alloc ?_ _)); refine blk_put (cs := #[.int .i64 t897, .int .i64 0, .slice none 0 0]) ?_ 1 _ rfl; (with_reducible repeat (first | refine blk_drewN ?_ _ | refine blk_drew ?_ | refine blk_alloc ?_ _)); refine blk_put (cs := #[.int .i64 0, .int .i64 0, .slice none 0 0]) ?_ 0 _ rfl; (with_reducible repeat (first | refine blk_drewN ?_ _ | refine blk_drew ?_ | refine blk_alloc ?_ _)); exact BK903.out⟩, ⟨by repeat (first | (with_reducible first | exact HB.out | apply below_alloc | apply pw_below_drewN | apply below_drew1 | refine below_set ?_ GE888.out | refine below_set ?_ GE889.out | refine below_set ?_ GE896.out | refine below_set ?_ GE903.out) | exact HB.out)⟩⟩
          · rw [if_neg c32] at H
            have c32b0 : (t902 != t895) = false := by simpa using c32
            (try (have c32b1 : decide (t902 = t895) = true := by simpa using c32))
            (try (have c32b2 : (t902 == t895) = true := by simpa using c32))
            clear c32
            (first | rw [c32b0] | (simp only [i64_w, i32_w]; rw [c32b0]) | skip)
            replace H := Option.bind_eq_some_iff.mp H
            obtain ⟨t904, A330, H⟩ := H
            replace H : (if t904 = true then ((spec_PageOk.f kj2 t874 t875 t876).bind fun t905 => (laws_FnRecKinds.j1 kj2 l1 t895 t902 (!t905) t874 t875 t876 t879 t880 t881 t882 t883 t884 t885 t886 t890 t891 t892 t897 t898 t899)) else (laws_FnRecKinds.j1 kj2 l1 t895 t902 true t874 t875 t876 t879 t880 t881 t882 t883 t884 t885 t886 t890 t891 t892 t897 t898 t899)) = some r := H
            have A33 := Aside0.mk A330
            clear A330
            by_cases c34 : t904 = true
            · subst c34
              have H1 : ((spec_PageOk.f kj2 t874 t875 t876).bind fun t905 => (laws_FnRecKinds.j1 kj2 l1 t895 t902 (!t905) t874 t875 t876 t879 t880 t881 t882 t883 t884 t885 t886 t890 t891 t892 t897 t898 t899)) = some r := by rw [if_pos rfl] at H; exact H
              clear H
              have H := H1
              clear H1
              replace H := Option.bind_eq_some_iff.mp H
              obtain ⟨t905, A350, H⟩ := H
              replace H : (laws_FnRecKinds.j1 kj2 l1 t895 t902 (!t905) t874 t875 t876 t879 t880 t881 t882 t883 t884 t885 t886 t890 t891 t892 t897 t898 t899) = some r := H
              have A35 := Aside0.mk A350
              clear A350
              have H' := Aside0.mk H
              clear H
              have hnb36 := NB903_888.out
              have hnc36 := NB888_903.out
              have hnb37 := NB903_889.out
              have hnc37 := NB889_903.out
              have hnb38 := NB903_896.out
              have hnc38 := NB896_903.out
              have hcz39_0 : w26.cell? ⟨gb903, 0, none⟩ = some (.int .i64 0) := (blk_cell BK903.out 0).trans rfl
              have hcz39_1 : w26.cell? ⟨gb903, 1, none⟩ = some (.int .i64 0) := (blk_cell BK903.out 1).trans rfl
              have hcz39_2 : w26.cell? ⟨gb903, 2, none⟩ = some (.slice none 0 0) := (blk_cell BK903.out 2).trans rfl
              have hfz39_0 := blk_frozen BK903.out 0
              have hfz39_1 := blk_frozen BK903.out 1
              have hfz39_2 := blk_frozen BK903.out 2
              have hnb40 := NB896_888.out
              have hnc40 := NB888_896.out
              have hnb41 := NB896_889.out
              have hnc41 := NB889_896.out
              have hcz42_0 : w26.cell? ⟨gb896, 0, none⟩ = some (.int .i64 t890) := (blk_cell BK896.out 0).trans rfl
              have hcz42_1 : w26.cell? ⟨gb896, 1, none⟩ = some (.int .i64 t891) := (blk_cell BK896.out 1).trans rfl
              have hcz42_2 : w26.cell? ⟨gb896, 2, none⟩ = some (.slice Ao22 t892.length co22) := (blk_cell BK896.out 2).trans rfl
              have hfz42_0 := blk_frozen BK896.out 0
              have hfz42_1 := blk_frozen BK896.out 1
              have hfz42_2 := blk_frozen BK896.out 2
              go_wp2_with (first | (go_at_call 57; (with_reducible refine (laws_ltPage.calls kj2 t897 t898 _ _ t899 t890 t891 _ _ t892 true _ ?side1 ?side2 ?side3 ?side4 A33.out).mono ?_); (case side1 => refine (Kd.R_reads' (e := 3) (base := w.heap.size) (ok := fun k_ => ((True ∧ some k_ ≠ (.slice Ao15 t876.length co15 : Value).ownBlock) ∧ some k_ ≠ (.slice Ao22 t892.length co22 : Value).ownBlock)) (n := t899.length) (c := co31) ?_).2.2; exact (by (with_reducible repeat (first | apply Kd.R_alloc | apply Kd.R_drewN | apply Kd.R_drew)); exact (Kd.R_mono (Kd.R_far (p := ⟨gb903, 2, none⟩) (Kd.R_far (p := ⟨gb903, 1, none⟩) (Kd.R_far (p := ⟨gb903, 0, none⟩) (Kd.R_types HO901.out BK903.out (by decide)) (fun _ hk => hk.2) (.int .i64 t897)) (fun _ hk => hk.2) (.int .i64 t898)) (fun _ hk => hk.2) (.slice Ao31 t899.length co31)) (fun _ h_ => h_.1)))); (case side2 => exact (Kd.R_reads' HO901.out).2.1); (case side3 => refine (Kd.R_reads' (e := 3) (base := w.heap.size) (ok := fun k_ => ((True ∧ some k_ ≠ (.slice Ao15 t876.length co15 : Value).ownBlock) ∧ some k_ ≠ (.slice Ao31 t899.length co31 : Value).ownBlock)) (n := t892.length) (c := co22) ?_).2.2; exact (by (with_reducible repeat (first | apply Kd.R_alloc | apply Kd.R_drewN | apply Kd.R_drew)); exact (Kd.R_mono (Kd.R_far (p := ⟨gb903, 2, none⟩) (Kd.R_far (p := ⟨gb903, 1, none⟩) (Kd.R_far (p := ⟨gb903, 0, none⟩) (Kd.R_types HO894.out BK903.out (by decide)) (fun _ hk => hk.2) (.int .i64 t897)) (fun _ hk => hk.2) (.int .i64 t898)) (fun _ hk => hk.2) (.slice Ao31 t899.length co31)) (fun _ h_ => h_.1)))); (case side4 => exact (Kd.R_reads' HO894.out).2.1); rintro e w43 ⟨rfl, hb⟩; have n0_ := Aside0.mk (Kd.Q_below (by (with_reducible repeat (first | apply Kd.Q_alloc | apply Kd.Q_drewN | apply Kd.Q_drew)); exact (Kd.Q_mono (Kd.Q_far (p := ⟨gb903, 2, none⟩) (Kd.Q_far (p := ⟨gb903, 1, none⟩) (Kd.Q_far (p := ⟨gb903, 0, none⟩) (Kd.Q_types HO878.out BK903.out (by decide)) (fun _ hk => hk.2) (.int .i64 t897)) (fun _ hk => hk.2) (.int .i64 t898)) (fun _ hk => hk.2) (.slice Ao31 t899.length co31)) (fun _ h_ => h_.1))) hb); have n1_ := Aside0.mk (Kd.R_below (by (with_reducible repeat (first | apply Kd.R_alloc | apply Kd.R_drewN | apply Kd.R_drew)); exact (Kd.R_mono (Kd.R_far (p := ⟨gb903, 2, none⟩) (Kd.R_far (p := ⟨gb903, 1, none⟩) (Kd.R_far (p := ⟨gb903, 0, none⟩) (Kd.R_types HO894.out BK903.out (by decide)) (fun _ hk => hk.2) (.int .i64 t897)) (fun _ hk => hk.2) (.int .i64 t898)) (fun _ hk => hk.2) (.slice Ao31 t899.length co31)) (fun _ h_ => h_.1))) hb); have n2_ := Aside0.mk (Kd.R_below (by (with_reducible repeat (first | apply Kd.R_alloc | apply Kd.R_drewN | apply Kd.R_drew)); exact (Kd.R_mono (Kd.R_far (p := ⟨gb903, 2, none⟩) (Kd.R_far (p := ⟨gb903, 1, none⟩) (Kd.R_far (p := ⟨gb903, 0, none⟩) (Kd.R_types HO901.out BK903.out (by decide)) (fun _ hk => hk.2) (.int .i64 t897)) (fun _ hk => hk.2) (.int .i64 t898)) (fun _ hk => hk.2) (.slice Ao31 t899.length co31)) (fun _ h_ => h_.1))) hb); have n3_ := Aside0.mk (blk_below (g := gb888) (o := .cells #[.int .i64 t874, .int .i64 t875, .slice Ao15 t876.length co15] 25 (0, 0)) (by (with_reducible repeat (first | refine blk_drewN ?_ _ | refine blk_drew ?_ | refine blk_alloc ?_ _)); refine blk_far ?_ NB888_903.out _; (with_reducible repeat (first | refine blk_drewN ?_ _ | refine blk_drew ?_ | refine blk_alloc ?_ _)); refine blk_far ?_ NB888_903.out _; (with_reducible repeat (first | refine blk_drewN ?_ _ | refine blk_drew ?_ | refine blk_alloc ?_ _)); refine blk_far ?_ NB888_903.out _; (with_reducible repeat (first | refine blk_drewN ?_ _ | refine blk_drew ?_ | refine blk_alloc ?_ _)); exact BK888.out) hb); have n4_ := Aside0.mk (blk_below (g := gb889) (o := .cells #[.int .i64 t879, .int .i64 t880, .int .i64 t881, .int .i64 t882, .int .i64 t883, .int .i64 t884, .int .i64 t885, .int .i64 t886] 41 (0, 0)) (by (with_reducible repeat (first | refine blk_drewN ?_ _ | refine blk_drew ?_ | refine blk_alloc ?_ _)); refine blk_far ?_ NB889_903.out _; (with_reducible repeat (first | refine blk_drewN ?_ _ | refine blk_drew ?_ | refine blk_alloc ?_ _)); refine blk_far ?_ NB889_903.out _; (with_reducible repeat (first | refine blk_drewN ?_ _ | refine blk_drew ?_ | refine blk_alloc ?_ _)); refine blk_far ?_ NB889_903.out _; (with_reducible repeat (first | refine blk_drewN ?_ _ | refine blk_drew ?_ | refine blk_alloc ?_ _)); exact BK889.out) hb); have n5_ := Aside0.mk (blk_below (g := gb896) (o := .cells #[.int .i64 t890, .int .i64 t891, .slice Ao22 t892.length co22] 25 (0, 0)) (by (with_reducible repeat (first | refine blk_drewN ?_ _ | refine blk_drew ?_ | refine blk_alloc ?_ _)); refine blk_far ?_ NB896_903.out _; (with_reducible repeat (first | refine blk_drewN ?_ _ | refine blk_drew ?_ | refine blk_alloc ?_ _)); refine blk_far ?_ NB896_903.out _; (with_reducible repeat (first | refine blk_drewN ?_ _ | refine blk_drew ?_ | refine blk_alloc ?_ _)); refine blk_far ?_ NB896_903.out _; (with_reducible repeat (first | refine blk_drewN ?_ _ | refine blk_drew ?_ | refine blk_alloc ?_ _)); exact BK896.out) hb); have n6_ := Aside0.mk (blk_below (g := gb903) (o := .cells #[.int .i64 t897, .int .i64 t898, .slice Ao31 t899.length co31] 25 (0, 0)) (by (with_reducible repeat (first | refine blk_drewN ?_ _ | refine blk_drew ?_ | refine blk_alloc ?_ _)); refine blk_put (cs := #[.int .i64 t897, .int .i64 t898, .slice none 0 0]) ?_ 2 _ rfl; (with_reducible repeat (first | refine blk_drewN ?_ _ | refine blk_drew ?_ | refine blk_alloc ?_ _)); refine blk_put (cs := #[.int .i64 t897, .int .i64 0, .slice none 0 0]) ?_ 1 _ rfl; (with_reducible repeat (first | refine blk_drewN ?_ _ | refine blk_drew ?_ | refine blk_alloc ?_ _)); refine blk_put (cs := #[.int .i64 0, .int .i64 0, .slice none 0 0]) ?_ 0 _ rfl; (with_reducible repeat (first | refine blk_drewN ?_ _ | refine blk_drew ?_ | refine blk_alloc ?_ _)); exact BK903.out) hb); have n7_ := Aside0.mk (below_step (by repeat (first | (with_reducible first | exact HB.out | apply below_alloc | apply pw_below_drewN | apply below_drew1 | refine below_set ?_ GE888.out | refine below_set ?_ GE889.out | refine below_set ?_ GE896.out | refine below_set ?_ GE903.out) | exact HB.out)) hb); clear HO878; clear HO894; clear HO901; clear BK888; clear BK889; clear BK896; clear BK903; clear HB; have HO878 := n0_; have HO894 := n1_; have HO901 := n2_; have BK888 := n3_; have BK889 := n4_; have BK896 := n5_; have BK903 := n6_; have HB := n7_; clear n0_ n1_ n2_ n3_ n4_ n5_ n6_ n7_; (try clear hb); (try clear hb2); (try clear hk); (try clear hi); have hnb44 := NB888_889.out; have hnc44 := NB889_888.out; have hcz45_0 : w43.cell? ⟨gb888, 0, none⟩ = some (.int .i64 t874) := (blk_cell BK888.out 0).trans rfl; have hcz45_1 : w43.cell? ⟨gb888, 1, none⟩ = some (.int .i64 t875) := (blk_cell BK888.out 1).trans rfl; have hcz45_2 : w43.cell? ⟨gb888, 2, none⟩ = some (.slice Ao15 t876.length co15) := (blk_cell BK888.out 2).trans rfl; have hfz45_0 := blk_frozen BK888.out 0; have hfz45_1 := blk_frozen BK888.out 1; have hfz45_2 := blk_frozen BK888.out 2) | (go_at_call 26; (with_reducible refine (spec_PageOk.calls kj2 t874 t875 _ _ t876 t905 _ ?side1 ?side2 A35.out).mono ?_); (case side1 => repeat (first | exact (Kd.Q_reads' HO878.out).2.2 | (with_reducible refine Kd.C_alloc ?_ _) | (with_reducible refine Kd.C_drewN ?_ _) | (with_reducible refine Kd.C_drew ?_))); (case side2 => exact (Kd.Q_reads' HO878.out).2.1); rintro e w46 ⟨rfl, hb⟩; have n0_ := Aside0.mk (Kd.Q_below (by (with_reducible repeat (first | apply Kd.Q_alloc | apply Kd.Q_drewN | apply Kd.Q_drew)); exact HO878.out) hb); have n1_ := Aside0.mk (Kd.R_below (by (with_reducible repeat (first | apply Kd.R_alloc | apply Kd.R_drewN | apply Kd.R_drew)); exact HO894.out) hb); have n2_ := Aside0.mk (Kd.R_below (by (with_reducible repeat (first | apply Kd.R_alloc | apply Kd.R_drewN | apply Kd.R_drew)); exact HO901.out) hb); have n3_ := Aside0.mk (blk_below (g := gb888) (o := .cells #[.int .i64 t874, .int .i64 t875, .slice Ao15 t876.length co15] 25 (0, 0)) (by (with_reducible repeat (first | refine blk_drewN ?_ _ | refine blk_drew ?_ | refine blk_alloc ?_ _)); exact BK888.out) hb); have n4_ := Aside0.mk (blk_below (g := gb889) (o := .cells #[.int .i64 t879, .int .i64 t880, .int .i64 t881, .int .i64 t882, .int .i64 t883, .int .i64 t884, .int .i64 t885, .int .i64 t886] 41 (0, 0)) (by (with_reducible repeat (first | refine blk_drewN ?_ _ | refine blk_drew ?_ | refine blk_alloc ?_ _)); exact BK889.out) hb); have n5_ := Aside0.mk (blk_below (g := gb896) (o := .cells #[.int .i64 t890, .int .i64 t891, .slice Ao22 t892.length co22] 25 (0, 0)) (by (with_reducible repeat (first | refine blk_drewN ?_ _ | refine blk_drew ?_ | refine blk_alloc ?_ _)); exact BK896.out) hb); have n6_ := Aside0.mk (blk_below (g := gb903) (o := .cells #[.int .i64 t897, .int .i64 t898, .slice Ao31 t899.length co31] 25 (0, 0)) (by (with_reducible repeat (first | refine blk_drewN ?_ _ | refine blk_drew ?_ | refine blk_alloc ?_ _)); exact BK903.out) hb); have n7_ := Aside0.mk (below_step (by repeat (first | (with_reducible first | exact HB.out | apply below_alloc | apply pw_below_drewN | apply below_drew1 | refine below_set ?_ GE888.out | refine below_set ?_ GE889.out | refine below_set ?_ GE896.out | refine below_set ?_ GE903.out) | exact HB.out)) hb); clear HO878; clear HO894; clear HO901; clear BK888; clear BK889; clear BK896; clear BK903; clear HB; have HO878 := n0_; have HO894 := n1_; have HO901 := n2_; have BK888 := n3_; have BK889 := n4_; have BK896 := n5_; have BK903 := n6_; have HB := n7_; clear n0_ n1_ n2_ n3_ n4_ n5_ n6_ n7_; (try clear hb); (try clear hb2); (try clear hk); (try clear hi)))
              go_meet
              case rel => exact ⟨_, (!t905), (by first | rfl | (simp; done) | (simp [*]; done)), H', ⟨by have := HJ2.out; first | omega | exact Nat.le_refl _⟩, ⟨by (with_reducible repeat (first | apply Kd.Q_alloc | apply Kd.Q_drewN | apply Kd.Q_drew)); exact Kd.Q_mono HO878.out (fun _ hk => ⟨hk.1.2, hk.2⟩)⟩, ⟨Kd.Q_of_R (by (with_reducible repeat (first | apply Kd.R_alloc | apply Kd.R_drewN | apply Kd.R_drew)); exact Kd.R_mono HO894.out (fun _ hk => ⟨hk.1.2, hk.2⟩))⟩, ⟨Kd.Q_of_R (by (with_reducible repeat (first | apply Kd.R_alloc | apply Kd.R_drewN | apply Kd.R_drew)); exact Kd.R_mono HO901.out (fun _ hk => ⟨hk.1.2, hk.2⟩))⟩, ⟨by (with_reducible repeat (first | refine blk_drewN ?_ _ | refine blk_drew ?_ | refine blk_alloc ?_ _)); exact BK888.out⟩, ⟨by (with_reducible repeat (first | refine blk_drewN ?_ _ | refine blk_drew ?_ | refine blk_alloc ?_ _)); exact BK889.out⟩, ⟨by (with_reducible repeat (first | refine blk_drewN ?_ _ | refine blk_drew ?_ | refine blk_alloc ?_ _)); exact BK896.out⟩, ⟨by (with_reducible repeat (first | refine blk_drewN ?_ _ | refine blk_drew ?_ | refine blk_alloc ?_ _)); exact BK903.out⟩, ⟨by repeat (first | (with_reducible first | exact HB.out | apply below_alloc | apply pw_below_drewN | apply below_drew1 | refine below_set ?_ GE888.out | refine below_set ?_ GE889.out | refine below_set ?_ GE896.out | refine below_set ?_ GE903.out) | exact HB.out)⟩⟩
            · replace c34 := Bool.eq_false_iff.mpr c34
              subst c34
              have H1 : (laws_FnRecKinds.j1 kj2 l1 t895 t902 true t874 t875 t876 t879 t880 t881 t882 t883 t884 t885 t886 t890 t891 t892 t897 t898 t899) = some r := by rw [if_neg (show ¬ (false = true) by decide)] at H; exact H
              clear H
              have H := H1
              clear H1
              have H' := Aside0.mk H
              clear H
              have hnb47 := NB903_888.out
              have hnc47 := NB888_903.out
              have hnb48 := NB903_889.out
              have hnc48 := NB889_903.out
              have hnb49 := NB903_896.out
              have hnc49 := NB896_903.out
              have hcz50_0 : w26.cell? ⟨gb903, 0, none⟩ = some (.int .i64 0) := (blk_cell BK903.out 0).trans rfl
              have hcz50_1 : w26.cell? ⟨gb903, 1, none⟩ = some (.int .i64 0) := (blk_cell BK903.out 1).trans rfl
              have hcz50_2 : w26.cell? ⟨gb903, 2, none⟩ = some (.slice none 0 0) := (blk_cell BK903.out 2).trans rfl
              have hfz50_0 := blk_frozen BK903.out 0
              have hfz50_1 := blk_frozen BK903.out 1
              have hfz50_2 := blk_frozen BK903.out 2
              have hnb51 := NB896_888.out
              have hnc51 := NB888_896.out
              have hnb52 := NB896_889.out
              have hnc52 := NB889_896.out
              have hcz53_0 : w26.cell? ⟨gb896, 0, none⟩ = some (.int .i64 t890) := (blk_cell BK896.out 0).trans rfl
              have hcz53_1 : w26.cell? ⟨gb896, 1, none⟩ = some (.int .i64 t891) := (blk_cell BK896.out 1).trans rfl
              have hcz53_2 : w26.cell? ⟨gb896, 2, none⟩ = some (.slice Ao22 t892.length co22) := (blk_cell BK896.out 2).trans rfl
              have hfz53_0 := blk_frozen BK896.out 0
              have hfz53_1 := blk_frozen BK896.out 1
              have hfz53_2 := blk_frozen BK896.out 2
              go_wp2_with (first | (go_at_call 57; (with_reducible refine (laws_ltPage.calls kj2 t897 t898 _ _ t899 t890 t891 _ _ t892 false _ ?side1 ?side2 ?side3 ?side4 A33.out).mono ?_); (case side1 => refine (Kd.R_reads' (e := 3) (base := w.heap.size) (ok := fun k_ => ((True ∧ some k_ ≠ (.slice Ao15 t876.length co15 : Value).ownBlock) ∧ some k_ ≠ (.slice Ao22 t892.length co22 : Value).ownBlock)) (n := t899.length) (c := co31) ?_).2.2; exact (by (with_reducible repeat (first | apply Kd.R_alloc | apply Kd.R_drewN | apply Kd.R_drew)); exact (Kd.R_mono (Kd.R_far (p := ⟨gb903, 2, none⟩) (Kd.R_far (p := ⟨gb903, 1, none⟩) (Kd.R_far (p := ⟨gb903, 0, none⟩) (Kd.R_types HO901.out BK903.out (by decide)) (fun _ hk => hk.2) (.int .i64 t897)) (fun _ hk => hk.2) (.int .i64 t898)) (fun _ hk => hk.2) (.slice Ao31 t899.length co31)) (fun _ h_ => h_.1)))); (case side2 => exact (Kd.R_reads' HO901.out).2.1); (case side3 => refine (Kd.R_reads' (e := 3) (base := w.heap.size) (ok := fun k_ => ((True ∧ some k_ ≠ (.slice Ao15 t876.length co15 : Value).ownBlock) ∧ some k_ ≠ (.slice Ao31 t899.length co31 : Value).ownBlock)) (n := t892.length) (c := co22) ?_).2.2; exact (by (with_reducible repeat (first | apply Kd.R_alloc | apply Kd.R_drewN | apply Kd.R_drew)); exact (Kd.R_mono (Kd.R_far (p := ⟨gb903, 2, none⟩) (Kd.R_far (p := ⟨gb903, 1, none⟩) (Kd.R_far (p := ⟨gb903, 0, none⟩) (Kd.R_types HO894.out BK903.out (by decide)) (fun _ hk => hk.2) (.int .i64 t897)) (fun _ hk => hk.2) (.int .i64 t898)) (fun _ hk => hk.2) (.slice Ao31 t899.length co31)) (fun _ h_ => h_.1)))); (case side4 => exact (Kd.R_reads' HO894.out).2.1); rintro e w54 ⟨rfl, hb⟩; have n0_ := Aside0.mk (Kd.Q_below (by (with_reducible repeat (first | apply Kd.Q_alloc | apply Kd.Q_drewN | apply Kd.Q_drew)); exact (Kd.Q_mono (Kd.Q_far (p := ⟨gb903, 2, none⟩) (Kd.Q_far (p := ⟨gb903, 1, none⟩) (Kd.Q_far (p := ⟨gb903, 0, none⟩) (Kd.Q_types HO878.out BK903.out (by decide)) (fun _ hk => hk.2) (.int .i64 t897)) (fun _ hk => hk.2) (.int .i64 t898)) (fun _ hk => hk.2) (.slice Ao31 t899.length co31)) (fun _ h_ => h_.1))) hb); have n1_ := Aside0.mk (Kd.R_below (by (with_reducible repeat (first | apply Kd.R_alloc | apply Kd.R_drewN | apply Kd.R_drew)); exact (Kd.R_mono (Kd.R_far (p := ⟨gb903, 2, none⟩) (Kd.R_far (p := ⟨gb903, 1, none⟩) (Kd.R_far (p := ⟨gb903, 0, none⟩) (Kd.R_types HO894.out BK903.out (by decide)) (fun _ hk => hk.2) (.int .i64 t897)) (fun _ hk => hk.2) (.int .i64 t898)) (fun _ hk => hk.2) (.slice Ao31 t899.length co31)) (fun _ h_ => h_.1))) hb); have n2_ := Aside0.mk (Kd.R_below (by (with_reducible repeat (first | apply Kd.R_alloc | apply Kd.R_drewN | apply Kd.R_drew)); exact (Kd.R_mono (Kd.R_far (p := ⟨gb903, 2, none⟩) (Kd.R_far (p := ⟨gb903, 1, none⟩) (Kd.R_far (p := ⟨gb903, 0, none⟩) (Kd.R_types HO901.out BK903.out (by decide)) (fun _ hk => hk.2) (.int .i64 t897)) (fun _ hk => hk.2) (.int .i64 t898)) (fun _ hk => hk.2) (.slice Ao31 t899.length co31)) (fun _ h_ => h_.1))) hb); have n3_ := Aside0.mk (blk_below (g := gb888) (o := .cells #[.int .i64 t874, .int .i64 t875, .slice Ao15 t876.length co15] 25 (0, 0)) (by (with_reducible repeat (first | refine blk_drewN ?_ _ | refine blk_drew ?_ | refine blk_alloc ?_ _)); refine blk_far ?_ NB888_903.out _; (with_reducible repeat (first | refine blk_drewN ?_ _ | refine blk_drew ?_ | refine blk_alloc ?_ _)); refine blk_far ?_ NB888_903.out _; (with_reducible repeat (first | refine blk_drewN ?_ _ | refine blk_drew ?_ | refine blk_alloc ?_ _)); refine blk_far ?_ NB888_903.out _; (with_reducible repeat (first | refine blk_drewN ?_ _ | refine blk_drew ?_ | refine blk_alloc ?_ _)); exact BK888.out) hb); have n4_ := Aside0.mk (blk_below (g := gb889) (o := .cells #[.int .i64 t879, .int .i64 t880, .int .i64 t881, .int .i64 t882, .int .i64 t883, .int .i64 t884, .int .i64 t885, .int .i64 t886] 41 (0, 0)) (by (with_reducible repeat (first | refine blk_drewN ?_ _ | refine blk_drew ?_ | refine blk_alloc ?_ _)); refine blk_far ?_ NB889_903.out _; (with_reducible repeat (first | refine blk_drewN ?_ _ | refine blk_drew ?_ | refine blk_alloc ?_ _)); refine blk_far ?_ NB889_903.out _; (with_reducible repeat (first | refine blk_drewN ?_ _ | refine blk_drew ?_ | refine blk_alloc ?_ _)); refine blk_far ?_ NB889_903.out _; (with_reducible repeat (first | refine blk_drewN ?_ _ | refine blk_drew ?_ | refine blk_alloc ?_ _)); exact BK889.out) hb); have n5_ := Aside0.mk (blk_below (g := gb896) (o := .cells #[.int .i64 t890, .int .i64 t891, .slice Ao22 t892.length co22] 25 (0, 0)) (by (with_reducible repeat (first | refine blk_drewN ?_ _ | refine blk_drew ?_ | refine blk_alloc ?_ _)); refine blk_far ?_ NB896_903.out _; (with_reducible repeat (first | refine blk_drewN ?_ _ | refine blk_drew ?_ | refine blk_alloc ?_ _)); refine blk_far ?_ NB896_903.out _; (with_reducible repeat (first | refine blk_drewN ?_ _ | refine blk_drew ?_ | refine blk_alloc ?_ _)); refine blk_far ?_ NB896_903.out _; (with_reducible repeat (first | refine blk_drewN ?_ _ | refine blk_drew ?_ | refine blk_alloc ?_ _)); exact BK896.out) hb); have n6_ := Aside0.mk (blk_below (g := gb903) (o := .cells #[.int .i64 t897, .int .i64 t898, .slice Ao31 t899.length co31] 25 (0, 0)) (by (with_reducible repeat (first | refine blk_drewN ?_ _ | refine blk_drew ?_ | refine blk_alloc ?_ _)); refine blk_put (cs := #[.int .i64 t897, .int .i64 t898, .slice none 0 0]) ?_ 2 _ rfl; (with_reducible repeat (first | refine blk_drewN ?_ _ | refine blk_drew ?_ | refine blk_alloc ?_ _)); refine blk_put (cs := #[.int .i64 t897, .int .i64 0, .slice none 0 0]) ?_ 1 _ rfl; (with_reducible repeat (first | refine blk_drewN ?_ _ | refine blk_drew ?_ | refine blk_alloc ?_ _)); refine blk_put (cs := #[.int .i64 0, .int .i64 0, .slice none 0 0]) ?_ 0 _ rfl; (with_reducible repeat (first | refine blk_drewN ?_ _ | refine blk_drew ?_ | refine blk_alloc ?_ _)); exact BK903.out) hb); have n7_ := Aside0.mk (below_step (by repeat (first | (with_reducible first | exact HB.out | apply below_alloc | apply pw_below_drewN | apply below_drew1 | refine below_set ?_ GE888.out | refine below_set ?_ GE889.out | refine below_set ?_ GE896.out | refine below_set ?_ GE903.out) | exact HB.out)) hb); clear HO878; clear HO894; clear HO901; clear BK888; clear BK889; clear BK896; clear BK903; clear HB; have HO878 := n0_; have HO894 := n1_; have HO901 := n2_; have BK888 := n3_; have BK889 := n4_; have BK896 := n5_; have BK903 := n6_; have HB := n7_; clear n0_ n1_ n2_ n3_ n4_ n5_ n6_ n7_; (try clear hb); (try clear hb2); (try clear hk); (try clear hi)))
              go_meet
              case rel => exact ⟨_, (true), (by first | rfl | (simp; done) | (simp [*]; done)), H', ⟨by have := HJ2.out; first | omega | exact Nat.le_refl _⟩, ⟨by (with_reducible repeat (first | apply Kd.Q_alloc | apply Kd.Q_drewN | apply Kd.Q_drew)); exact Kd.Q_mono HO878.out (fun _ hk => ⟨hk.1.2, hk.2⟩)⟩, ⟨Kd.Q_of_R (by (with_reducible repeat (first | apply Kd.R_alloc | apply Kd.R_drewN | apply Kd.R_drew)); exact Kd.R_mono HO894.out (fun _ hk => ⟨hk.1.2, hk.2⟩))⟩, ⟨Kd.Q_of_R (by (with_reducible repeat (first | apply Kd.R_alloc | apply Kd.R_drewN | apply Kd.R_drew)); exact Kd.R_mono HO901.out (fun _ hk => ⟨hk.1.2, hk.2⟩))⟩, ⟨by (with_reducible repeat (first | refine blk_drewN ?_ _ | refine blk_drew ?_ | refine blk_alloc ?_ _)); exact BK888.out⟩, ⟨by (with_reducible repeat (first | refine blk_drewN ?_ _ | refine blk_drew ?_ | refine blk_alloc ?_ _)); exact BK889.out⟩, ⟨by (with_reducible repeat (first | refine blk_drewN ?_ _ | refine blk_drew ?_ | refine blk_alloc ?_ _)); exact BK896.out⟩, ⟨by (with_reducible repeat (first | refine blk_drewN ?_ _ | refine blk_drew ?_ | refine blk_alloc ?_ _)); exact BK903.out⟩, ⟨by repeat (first | (with_reducible first | exact HB.out | apply below_alloc | apply pw_below_drewN | apply below_drew1 | refine below_set ?_ GE888.out | refine below_set ?_ GE889.out | refine below_set ?_ GE896.out | refine below_set ?_ GE903.out) | exact HB.out)⟩⟩
        case rest =>
          clear HC9
          try clear c1
          try clear c2
          try clear p2
          try clear c3
          try clear c4
          try clear c4b0
          try clear c4b1
          try clear c5
          try clear c10
          try clear c13
          try clear c19
          try clear c20
          try clear c27
          try clear c28
          try clear c29
          try clear c32
          try clear c32b0
          try clear c32b1
          try clear c32b2
          try clear c34
          try clear c36
          try clear c37
          try clear c38
          try clear c40
          try clear c41
          try clear c42
          try clear c44
          try clear c47
          try clear c48
          try clear c49
          try clear c50
          try clear c51
          try clear c52
          try clear hcz14_0
          try clear hcz14_1
          try clear hcz14_2
          try clear hcz16_0
          try clear hcz16_1
          try clear hcz16_2
          try clear hcz16_3
          try clear hcz16_4
          try clear hcz16_5
          try clear hcz16_6
          try clear hcz16_7
          try clear hcz21_0
          try clear hcz21_1
          try clear hcz21_2
          try clear hcz23_0
          try clear hcz23_1
          try clear hcz23_2
          try clear hcz24_0
          try clear hcz24_1
          try clear hcz24_2
          try clear hcz24_3
          try clear hcz24_4
          try clear hcz24_5
          try clear hcz24_6
          try clear hcz24_7
          try clear hcz30_0
          try clear hcz30_1
          try clear hcz30_2
          try clear hcz39_0
          try clear hcz39_1
          try clear hcz39_2
          try clear hcz42_0
          try clear hcz42_1
          try clear hcz42_2
          try clear hcz45_0
          try clear hcz45_1
          try clear hcz45_2
          try clear hcz50_0
          try clear hcz50_1
          try clear hcz50_2
          try clear hcz53_0
          try clear hcz53_1
          try clear hcz53_2
          try clear hfz14_0
          try clear hfz14_1
          try clear hfz14_2
          try clear hfz16_0
          try clear hfz16_1
          try clear hfz16_2
          try clear hfz16_3
          try clear hfz16_4
          try clear hfz16_5
          try clear hfz16_6
          try clear hfz16_7
          try clear hfz21_0
          try clear hfz21_1
          try clear hfz21_2
          try clear hfz23_0
          try clear hfz23_1
          try clear hfz23_2
          try clear hfz24_0
          try clear hfz24_1
          try clear hfz24_2
          try clear hfz24_3
          try clear hfz24_4
          try clear hfz24_5
          try clear hfz24_6
          try clear hfz24_7
          try clear hfz30_0
          try clear hfz30_1
          try clear hfz30_2
          try clear hfz39_0
          try clear hfz39_1
          try clear hfz39_2
          try clear hfz42_0
          try clear hfz42_1
          try clear hfz42_2
          try clear hfz45_0
          try clear hfz45_1
          try clear hfz45_2
          try clear hfz50_0
          try clear hfz50_1
          try clear hfz50_2
          try clear hfz53_0
          try clear hfz53_1
          try clear hfz53_2
          try clear p2
          obtain ⟨kq, x59_8, rfl, HA, HJ8, HO_889002, HO_897002, HO_904002, BK888, BK889, BK896, BK903, HB⟩ := hcut
          cases kq with
          | zero => exact absurd HA.out (by simp [laws_FnRecKinds.j1])
          | succ kj8 =>
            have H := HA.out
            clear HA
            simp only [laws_FnRecKinds.j1] at H
            by_cases c55 : x59_8 = true
            · subst c55
              have H1 : (if (t902 == t895) = true then ((laws_ltPage.f kj8 t897 t898 t899 t890 t891 t892).bind fun t906 => (some t906)) else (some false)) = some r := by rw [if_pos rfl] at H; exact H
              clear H
              have H := H1
              clear H1
              by_cases c56 : (t902 == t895) = true
              · rw [if_pos c56] at H
                have c56b0 : (t902 == t895) = true := c56
                (try (have c56b1 : decide (t902 = t895) = true := by simpa using c56))
                (try (have c56b2 : (t902 == t895) = true := by simpa using c56))
                clear c56
                replace H := Option.bind_eq_some_iff.mp H
                obtain ⟨t906, A570, H⟩ := H
                replace H : (some t906) = some r := H
                have A57 := Aside0.mk A570
                clear A570
                obtain rfl := Option.some.inj H
                have hnb58 := NB903_888.out
                have hnc58 := NB888_903.out
                have hnb59 := NB903_889.out
                have hnc59 := NB889_903.out
                have hnb60 := NB903_896.out
                have hnc60 := NB896_903.out
                have hcz61_0 : wc.cell? ⟨gb903, 0, none⟩ = some (.int .i64 t897) := (blk_cell BK903.out 0).trans rfl
                have hcz61_1 : wc.cell? ⟨gb903, 1, none⟩ = some (.int .i64 t898) := (blk_cell BK903.out 1).trans rfl
                have hcz61_2 : wc.cell? ⟨gb903, 2, none⟩ = some (.slice Ao31 t899.length co31) := (blk_cell BK903.out 2).trans rfl
                have hfz61_0 := blk_frozen BK903.out 0
                have hfz61_1 := blk_frozen BK903.out 1
                have hfz61_2 := blk_frozen BK903.out 2
                have hnb62 := NB896_888.out
                have hnc62 := NB888_896.out
                have hnb63 := NB896_889.out
                have hnc63 := NB889_896.out
                have hcz64_0 : wc.cell? ⟨gb896, 0, none⟩ = some (.int .i64 t890) := (blk_cell BK896.out 0).trans rfl
                have hcz64_1 : wc.cell? ⟨gb896, 1, none⟩ = some (.int .i64 t891) := (blk_cell BK896.out 1).trans rfl
                have hcz64_2 : wc.cell? ⟨gb896, 2, none⟩ = some (.slice Ao22 t892.length co22) := (blk_cell BK896.out 2).trans rfl
                have hfz64_0 := blk_frozen BK896.out 0
                have hfz64_1 := blk_frozen BK896.out 1
                have hfz64_2 := blk_frozen BK896.out 2
                go_wp2_with (first | (go_at_call 57; (with_reducible refine (laws_ltPage.calls kj8 t897 t898 _ _ t899 t890 t891 _ _ t892 t906 _ ?side1 ?side2 ?side3 ?side4 A57.out).mono ?_); (case side1 => repeat (first | exact (Kd.Q_reads' HO_904002.out).2.2 | (with_reducible refine Kd.C_alloc ?_ _) | (with_reducible refine Kd.C_drewN ?_ _) | (with_reducible refine Kd.C_drew ?_))); (case side2 => exact (Kd.Q_reads' HO_904002.out).2.1); (case side3 => repeat (first | exact (Kd.Q_reads' HO_897002.out).2.2 | (with_reducible refine Kd.C_alloc ?_ _) | (with_reducible refine Kd.C_drewN ?_ _) | (with_reducible refine Kd.C_drew ?_))); (case side4 => exact (Kd.Q_reads' HO_897002.out).2.1); rintro e w65 ⟨rfl, hb⟩; have n0_ := Aside0.mk (Kd.Q_below (by (with_reducible repeat (first | apply Kd.Q_alloc | apply Kd.Q_drewN | apply Kd.Q_drew)); exact HO_889002.out) hb); have n1_ := Aside0.mk (Kd.Q_below (by (with_reducible repeat (first | apply Kd.Q_alloc | apply Kd.Q_drewN | apply Kd.Q_drew)); exact HO_897002.out) hb); have n2_ := Aside0.mk (Kd.Q_below (by (with_reducible repeat (first | apply Kd.Q_alloc | apply Kd.Q_drewN | apply Kd.Q_drew)); exact HO_904002.out) hb); have n3_ := Aside0.mk (blk_below (g := gb888) (o := .cells #[.int .i64 t874, .int .i64 t875, .slice Ao15 t876.length co15] 25 (0, 0)) (by (with_reducible repeat (first | refine blk_drewN ?_ _ | refine blk_drew ?_ | refine blk_alloc ?_ _)); exact BK888.out) hb); have n4_ := Aside0.mk (blk_below (g := gb889) (o := .cells #[.int .i64 t879, .int .i64 t880, .int .i64 t881, .int .i64 t882, .int .i64 t883, .int .i64 t884, .int .i64 t885, .int .i64 t886] 41 (0, 0)) (by (with_reducible repeat (first | refine blk_drewN ?_ _ | refine blk_drew ?_ | refine blk_alloc ?_ _)); exact BK889.out) hb); have n5_ := Aside0.mk (blk_below (g := gb896) (o := .cells #[.int .i64 t890, .int .i64 t891, .slice Ao22 t892.length co22] 25 (0, 0)) (by (with_reducible repeat (first | refine blk_drewN ?_ _ | refine blk_drew ?_ | refine blk_alloc ?_ _)); exact BK896.out) hb); have n6_ := Aside0.mk (blk_below (g := gb903) (o := .cells #[.int .i64 t897, .int .i64 t898, .slice Ao31 t899.length co31] 25 (0, 0)) (by (with_reducible repeat (first | refine blk_drewN ?_ _ | refine blk_drew ?_ | refine blk_alloc ?_ _)); exact BK903.out) hb); have n7_ := Aside0.mk (below_step (by repeat (first | (with_reducible first | exact HB.out | apply below_alloc | apply pw_below_drewN | apply below_drew1 | refine below_set ?_ GE888.out | refine below_set ?_ GE889.out | refine below_set ?_ GE896.out | refine below_set ?_ GE903.out) | exact HB.out)) hb); clear HO_889002; clear HO_897002; clear HO_904002; clear BK888; clear BK889; clear BK896; clear BK903; clear HB; have HO_889002 := n0_; have HO_897002 := n1_; have HO_904002 := n2_; have BK888 := n3_; have BK889 := n4_; have BK896 := n5_; have BK903 := n6_; have HB := n7_; clear n0_ n1_ n2_ n3_ n4_ n5_ n6_ n7_; (try clear hb); (try clear hb2); (try clear hk); (try clear hi)))
                go_ret
                exact ⟨by first | rfl | (simp [errW_none, errW_some] <;> rfl) | (simp [*, errW_none, errW_some] <;> rfl), by repeat (first | (with_reducible first | exact HB.out | apply below_alloc | apply pw_below_drewN | apply below_drew1 | refine below_set ?_ GE888.out | refine below_set ?_ GE889.out | refine below_set ?_ GE896.out | refine below_set ?_ GE903.out) | exact HB.out)⟩
              · rw [if_neg c56] at H
                have c56b0 : (t902 == t895) = false := by simpa using c56
                (try (have c56b1 : decide (t902 = t895) = false := by simpa using c56))
                (try (have c56b2 : (t902 == t895) = false := by simpa using c56))
                (try (have c56b3 : ¬ (t902 = t895) := by simpa using c56))
                clear c56
                obtain rfl := Option.some.inj H
                go_wp2
                go_ret
                exact ⟨by first | rfl | (simp [errW_none, errW_some] <;> rfl) | (simp [*, errW_none, errW_some] <;> rfl), by repeat (first | (with_reducible first | exact HB.out | apply below_alloc | apply pw_below_drewN | apply below_drew1 | refine below_set ?_ GE888.out | refine below_set ?_ GE889.out | refine below_set ?_ GE896.out | refine below_set ?_ GE903.out) | exact HB.out)⟩
            · replace c55 := Bool.eq_false_iff.mpr c55
              subst c55
              have H1 : ((some (([3, 4, 5] : List Int) : List Int)).bind fun y907 => (laws_FnRecKinds.l0 kj8 l1 y907 (y907.length : Int) 0 t874 t875 t876 t879 t880 t881 t882 t883 t884 t885 t886)) = some r := by rw [if_neg (show ¬ (false = true) by decide)] at H; exact H
              clear H
              have H := H1
              clear H1
              obtain ⟨y907, hy907⟩ : ∃ y_ : List Int, y_ = (([3, 4, 5] : List Int)) := ⟨_, rfl⟩
              replace H : (laws_FnRecKinds.l0 kj8 l1 y907 (y907.length : Int) 0 t874 t875 t876 t879 t880 t881 t882 t883 t884 t885 t886) = some r := by first | (rw [hy907]; with_reducible exact H) | (have H2_ := (Option.bind_some _ _).symm.trans H; rw [hy907]; with_reducible exact H2_) | (have H2_ := (Option.bind_some _ _).symm.trans H; with_reducible exact H2_) | with_reducible exact H | (rw [hy907]; exact H) | exact H
              have Ny907 := Aside0.mk hy907
              clear hy907
              have H' := Aside0.mk H
              clear H
              go_wp2_with (first | ((with_reducible refine gate_dst (N := 68) rfl ?_); (try (refine gate_guard (by rfl) ?_; dsimp only)); refine Kd.R_lit (Kd.int .i64) _ 3 ?hg (N := 68) ?hd (xs := ([3, 4, 5] : List Int)) (inner := [.int .i64 3, .int .i64 4, .int .i64 5]) (ok := fun _ => True) (okp := fun _ => True) ?hr ?hp (fun _ hk => hk) trivial (Below.refl _ _) (Nat.le_refl _) (by simp) ?_; (case hd => rfl); (case hg => rfl); (case hr => first | (go_simp; done) | (go_simp; rfl)); (case hp => exact (Reps.one (show Kd.M (Kd.int .i64) _ _ _ 3 [.int .i64 3] from rfl) (Reps.one (show Kd.M (Kd.int .i64) _ _ _ 4 [.int .i64 4] from rfl) (Reps.one (show Kd.M (Kd.int .i64) _ _ _ 5 [.int .i64 5] from rfl) (Reps.none _ _))))); intro v908 w66 ho67 hb hg_ hnew_; clear hg_ hnew_; (first | rw [← Ny907.out] at ho67 | (simp only [Int.reduceToNat] at ho67; rw [← Ny907.out] at ho67)); have n0_ := Aside0.mk (Kd.Q_elder' (by (with_reducible repeat (first | apply Kd.Q_alloc | apply Kd.Q_drewN | apply Kd.Q_drew)); exact HO_889002.out) (Kd.R_base ho67) hb); have n1_ := Aside0.mk (Kd.Q_elder' (by (with_reducible repeat (first | apply Kd.Q_alloc | apply Kd.Q_drewN | apply Kd.Q_drew)); exact HO_897002.out) (Kd.R_base ho67) hb); have n2_ := Aside0.mk (Kd.Q_elder' (by (with_reducible repeat (first | apply Kd.Q_alloc | apply Kd.Q_drewN | apply Kd.Q_drew)); exact HO_904002.out) (Kd.R_base ho67) hb); have n3_ := Aside0.mk (Kd.R_lower (Kd.R_new' (Kd.R_new' (Kd.R_new' ho67 (Kd.Q_lt (by (with_reducible repeat (first | apply Kd.Q_alloc | apply Kd.Q_drewN | apply Kd.Q_drew)); exact HO_889002.out))) (Kd.Q_lt (by (with_reducible repeat (first | apply Kd.Q_alloc | apply Kd.Q_drewN | apply Kd.Q_drew)); exact HO_897002.out))) (Kd.Q_lt (by (with_reducible repeat (first | apply Kd.Q_alloc | apply Kd.Q_drewN | apply Kd.Q_drew)); exact HO_904002.out))) (below_size (by repeat (first | (with_reducible first | exact HB.out | apply below_alloc | apply pw_below_drewN | apply below_drew1 | refine below_set ?_ GE888.out | refine below_set ?_ GE889.out | refine below_set ?_ GE896.out | refine below_set ?_ GE903.out) | exact HB.out)))); have n4_ := Aside0.mk (blk_below (g := gb888) (o := .cells #[.int .i64 t874, .int .i64 t875, .slice Ao15 t876.length co15] 25 (0, 0)) (by (with_reducible repeat (first | refine blk_drewN ?_ _ | refine blk_drew ?_ | refine blk_alloc ?_ _)); exact BK888.out) hb); have n5_ := Aside0.mk (blk_below (g := gb889) (o := .cells #[.int .i64 t879, .int .i64 t880, .int .i64 t881, .int .i64 t882, .int .i64 t883, .int .i64 t884, .int .i64 t885, .int .i64 t886] 41 (0, 0)) (by (with_reducible repeat (first | refine blk_drewN ?_ _ | refine blk_drew ?_ | refine blk_alloc ?_ _)); exact BK889.out) hb); have n6_ := Aside0.mk (blk_below (g := gb896) (o := .cells #[.int .i64 t890, .int .i64 t891, .slice Ao22 t892.length co22] 25 (0, 0)) (by (with_reducible repeat (first | refine blk_drewN ?_ _ | refine blk_drew ?_ | refine blk_alloc ?_ _)); exact BK896.out) hb); have n7_ := Aside0.mk (blk_below (g := gb903) (o := .cells #[.int .i64 t897, .int .i64 t898, .slice Ao31 t899.length co31] 25 (0, 0)) (by (with_reducible repeat (first | refine blk_drewN ?_ _ | refine blk_drew ?_ | refine blk_alloc ?_ _)); exact BK903.out) hb); have n8_ := Aside0.mk (below_step (by repeat (first | (with_reducible first | exact HB.out | apply below_alloc | apply pw_below_drewN | apply below_drew1 | refine below_set ?_ GE888.out | refine below_set ?_ GE889.out | refine below_set ?_ GE896.out | refine below_set ?_ GE903.out) | exact HB.out)) hb); clear HO_889002; clear HO_897002; clear HO_904002; clear BK888; clear BK889; clear BK896; clear BK903; clear HB; have HO_889002 := n0_; have HO_897002 := n1_; have HO_904002 := n2_; have HO909 := n3_; have BK888 := n4_; have BK889 := n5_; have BK896 := n6_; have BK903 := n7_; have HB := n8_; clear n0_ n1_ n2_ n3_ n4_ n5_ n6_ n7_ n8_; clear hb ho67; obtain ⟨Ao68, co68, eo68⟩ := Kd.R_slice HO909.out; subst eo68))
              go_loopg [70] kj8 (fun kq v70 w' => ∃ (x70_3 : Int), v70 = .int .i64 x70_3 ∧ Aside0 (laws_FnRecKinds.l0 kq l1 y907 (y907.length : Int) x70_3 t874 t875 t876 t879 t880 t881 t882 t883 t884 t885 t886 = some r) ∧ Aside0 (kq ≤ kj8) ∧ Aside0 (Kd.R (Kd.int .i64) 3 w' w.heap.size (fun k_ => some k_ ≠ ((.slice Ao15 t876.length co15) : Value).ownBlock ∧ some k_ ≠ ((.slice Ao22 t892.length co22) : Value).ownBlock ∧ some k_ ≠ ((.slice Ao31 t899.length co31) : Value).ownBlock) (.slice Ao68 y907.length co68) y907) ∧ Aside0 (Kd.Q (Kd.int .i64) 3 w' w.heap.size (fun k_ => some k_ ≠ ((.slice Ao68 y907.length co68) : Value).ownBlock ∧ some k_ ≠ ((.slice Ao22 t892.length co22) : Value).ownBlock ∧ some k_ ≠ ((.slice Ao31 t899.length co31) : Value).ownBlock) (.slice Ao15 t876.length co15) t876) ∧ Aside0 (Kd.Q (Kd.int .i64) 3 w' w.heap.size (fun k_ => some k_ ≠ ((.slice Ao68 y907.length co68) : Value).ownBlock ∧ some k_ ≠ ((.slice Ao15 t876.length co15) : Value).ownBlock ∧ some k_ ≠ ((.slice Ao31 t899.length co31) : Value).ownBlock) (.slice Ao22 t892.length co22) t892) ∧ Aside0 (Kd.Q (Kd.int .i64) 3 w' w.heap.size (fun k_ => some k_ ≠ ((.slice Ao68 y907.length co68) : Value).ownBlock ∧ some k_ ≠ ((.slice Ao15 t876.length co15) : Value).ownBlock ∧ some k_ ≠ ((.slice Ao22 t892.length co22) : Value).ownBlock) (.slice Ao31 t899.length co31) t899) ∧ Aside0 (w'.heap[gb888]? = some (.cells #[.int .i64 t874, .int .i64 t875, (.slice Ao15 t876.length co15)] 25 (0, 0))) ∧ Aside0 (w'.heap[gb889]? = some (.cells #[.int .i64 t879, .int .i64 t880, .int .i64 t881, .int .i64 t882, .int .i64 t883, .int .i64 t884, .int .i64 t885, .int .i64 t886] 41 (0, 0))) ∧ Aside0 (w'.heap[gb896]? = some (.cells #[.int .i64 t890, .int .i64 t891, (.slice Ao22 t892.length co22)] 25 (0, 0))) ∧ Aside0 (w'.heap[gb903]? = some (.cells #[.int .i64 t897, .int .i64 t898, (.slice Ao31 t899.length co31)] 25 (0, 0))) ∧ Aside0 (Below w.heap.size w w'))
              case atStart => exact ⟨(0), (by first | rfl | (simp; done) | (simp [*]; done)), H', ⟨Nat.le_refl _⟩, ⟨by (with_reducible repeat (first | apply Kd.R_alloc | apply Kd.R_drewN | apply Kd.R_drew)); exact Kd.R_mono HO909.out (fun _ hk => ⟨hk.1.1.2, ⟨hk.1.2, hk.2⟩⟩)⟩, ⟨by (with_reducible repeat (first | apply Kd.Q_alloc | apply Kd.Q_drewN | apply Kd.Q_drew)); exact Kd.Q_mono HO_889002.out (fun _ hk => ⟨hk.2, ⟨hk.1.1, hk.1.2⟩⟩)⟩, ⟨by (with_reducible repeat (first | apply Kd.Q_alloc | apply Kd.Q_drewN | apply Kd.Q_drew)); exact Kd.Q_mono HO_897002.out (fun _ hk => ⟨hk.2, ⟨hk.1.1, hk.1.2⟩⟩)⟩, ⟨by (with_reducible repeat (first | apply Kd.Q_alloc | apply Kd.Q_drewN | apply Kd.Q_drew)); exact Kd.Q_mono HO_904002.out (fun _ hk => ⟨hk.2, ⟨hk.1.1, hk.1.2⟩⟩)⟩, ⟨by (with_reducible repeat (first | refine blk_drewN ?_ _ | refine blk_drew ?_ | refine blk_alloc ?_ _)); exact BK888.out⟩, ⟨by (with_reducible repeat (first | refine blk_drewN ?_ _ | refine blk_drew ?_ | refine blk_alloc ?_ _)); exact BK889.out⟩, ⟨by (with_reducible repeat (first | refine blk_drewN ?_ _ | refine blk_drew ?_ | refine blk_alloc ?_ _)); exact BK896.out⟩, ⟨by (with_reducible repeat (first | refine blk_drewN ?_ _ | refine blk_drew ?_ | refine blk_alloc ?_ _)); exact BK903.out⟩, ⟨by repeat (first | (with_reducible first | exact HB.out | apply below_alloc | apply pw_below_drewN | apply below_drew1 | refine below_set ?_ GE888.out | refine below_set ?_ GE889.out | refine below_set ?_ GE896.out | refine below_set ?_ GE903.out) | exact HB.out)⟩⟩
              case round =>
                clear H'
                try clear c1
                try clear c2
                try clear p2
                try clear c3
                try clear c4
                try clear c4b0
                try clear c4b1
                try clear c5
                try clear c6
                try clear c10
                try clear c13
                try clear c19
                try clear c20
                try clear c27
                try clear c28
                try clear c29
                try clear c32
                try clear c32b0
                try clear c32b1
                try clear c32b2
                try clear c34
                try clear c36
                try clear c37
                try clear c38
                try clear c40
                try clear c41
                try clear c42
                try clear c44
                try clear c47
                try clear c48
                try clear c49
                try clear c50
                try clear c51
                try clear c52
                try clear c55
                try clear c56
                try clear c56b0
                try clear c56b1
                try clear c56b2
                try clear c58
                try clear c59
                try clear c60
                try clear c62
                try clear c63
                try clear hcz14_0
                try clear hcz14_1
                try clear hcz14_2
                try clear hcz16_0
                try clear hcz16_1
                try clear hcz16_2
                try clear hcz16_3
                try clear hcz16_4
                try clear hcz16_5
                try clear hcz16_6
                try clear hcz16_7
                try clear hcz21_0
                try clear hcz21_1
                try clear hcz21_2
                try clear hcz23_0
                try clear hcz23_1
                try clear hcz23_2
                try clear hcz24_0
                try clear hcz24_1
                try clear hcz24_2
                try clear hcz24_3
                try clear hcz24_4
                try clear hcz24_5
                try clear hcz24_6
                try clear hcz24_7
                try clear hcz30_0
                try clear hcz30_1
                try clear hcz30_2
                try clear hcz39_0
                try clear hcz39_1
                try clear hcz39_2
                try clear hcz42_0
                try clear hcz42_1
                try clear hcz42_2
                try clear hcz45_0
                try clear hcz45_1
                try clear hcz45_2
                try clear hcz50_0
                try clear hcz50_1
                try clear hcz50_2
                try clear hcz53_0
                try clear hcz53_1
                try clear hcz53_2
                try clear hcz61_0
                try clear hcz61_1
                try clear hcz61_2
                try clear hcz64_0
                try clear hcz64_1
                try clear hcz64_2
                try clear hfz14_0
                try clear hfz14_1
                try clear hfz14_2
                try clear hfz16_0
                try clear hfz16_1
                try clear hfz16_2
                try clear hfz16_3
                try clear hfz16_4
                try clear hfz16_5
                try clear hfz16_6
                try clear hfz16_7
                try clear hfz21_0
                try clear hfz21_1
                try clear hfz21_2
                try clear hfz23_0
                try clear hfz23_1
                try clear hfz23_2
                try clear hfz24_0
                try clear hfz24_1
                try clear hfz24_2
                try clear hfz24_3
                try clear hfz24_4
                try clear hfz24_5
                try clear hfz24_6
                try clear hfz24_7
                try clear hfz30_0
                try clear hfz30_1
                try clear hfz30_2
                try clear hfz39_0
                try clear hfz39_1
                try clear hfz39_2
                try clear hfz42_0
                try clear hfz42_1
                try clear hfz42_2
                try clear hfz45_0
                try clear hfz45_1
                try clear hfz45_2
                try clear hfz50_0
                try clear hfz50_1
                try clear hfz50_2
                try clear hfz53_0
                try clear hfz53_1
                try clear hfz53_2
                try clear hfz61_0
                try clear hfz61_1
                try clear hfz61_2
                try clear hfz64_0
                try clear hfz64_1
                try clear hfz64_2
                try clear p2
                obtain ⟨x70_3, rfl, HA, HK3, HO_68, HO_889002, HO_897002, HO_904002, BK888, BK889, BK896, BK903, HB⟩ := hrel
                cases gk with
                | zero => exact absurd HA.out (by simp [laws_FnRecKinds.l0])
                | succ k3 =>
                  have H := HA.out
                  clear HA
                  simp only [laws_FnRecKinds.l0] at H
                  by_cases c69 : x70_3 < (y907.length : Int)
                  · rw [if_pos c69] at H
                    have c69b0 : decide (x70_3 < (y907.length : Int)) = true := decide_eq_true c69
                    clear c69
                    by_cases c70 : 0 ≤ x70_3
                    · rw [if_pos c70] at H
                      have c70b0 : decide (0 ≤ x70_3) = true := decide_eq_true c70
                      clear c70
                      by_cases c71 : x70_3 < (y907.length : Int)
                      · rw [if_pos c71] at H
                        have c71b0 : decide (x70_3 < (y907.length : Int)) = true := decide_eq_true c71
                        clear c71
                        replace H := Option.bind_eq_some_iff.mp H
                        obtain ⟨⟨t911, t912, t913, t916⟩, A720, H⟩ := H
                        replace H : (if t916 = true then (some false) else (laws_FnRecKinds.l0 k3 l1 y907 (y907.length : Int) (wrap64 (x70_3 + 1)) t874 t875 t876 t879 t880 t881 t882 t883 t884 t885 t886)) = some r := H
                        have A72 := Aside0.mk A720
                        clear A720
                        by_cases c73 : t916 = true
                        · subst c73
                          have H1 : (some false) = some r := by rw [if_pos rfl] at H; exact H
                          clear H
                          have H := H1
                          clear H1
                          obtain rfl := Option.some.inj H
                          have p910 : 0 ≤ (x70_3 : Int) := of_decide_eq_true (by first | (with_reducible assumption) | assumption)
                          have q910 : x70_3 < (y907.length : Int) := of_decide_eq_true (by first | (with_reducible assumption) | assumption)
                          obtain ⟨ad910, e910, hx910_0⟩ := Kd.at_int (Kd.R_reads' HO_68.out).2.2 x70_3 p910 q910
                          cases e910
                          replace p910 := eq_true p910
                          replace q910 := eq_true q910
                          have hnb74 := NB888_889.out
                          have hnc74 := NB889_888.out
                          have hnb75 := NB888_896.out
                          have hnc75 := NB896_888.out
                          have hnb76 := NB888_903.out
                          have hnc76 := NB903_888.out
                          have hcz77_0 : wr.cell? ⟨gb888, 0, none⟩ = some (.int .i64 t874) := (blk_cell BK888.out 0).trans rfl
                          have hcz77_1 : wr.cell? ⟨gb888, 1, none⟩ = some (.int .i64 t875) := (blk_cell BK888.out 1).trans rfl
                          have hcz77_2 : wr.cell? ⟨gb888, 2, none⟩ = some (.slice Ao15 t876.length co15) := (blk_cell BK888.out 2).trans rfl
                          have hfz77_0 := blk_frozen BK888.out 0
                          have hfz77_1 := blk_frozen BK888.out 1
                          have hfz77_2 := blk_frozen BK888.out 2
                          go_wp2_with (first | ((with_reducible refine gate_callee (f := 42) rfl ?_); refine goesL_ (some 85) rfl rfl Try.func42 (by kernel_rfl) rfl #[.agg #[.int .i64 t874, .int .i64 t875, .slice Ao15 t876.length co15], .agg #[.int .i64 (rd y907 x70_3), .int .i64 (1 + ((l1.length : Int) % 3)), .int .i64 0, .int .i64 0, .int .i64 0, .int .i64 0, .int .i64 0, .int .i64 0], .int .i64 (wrap64 (t874 + 1))] rfl (by (try simp only [List.map_toArray, List.map_cons, List.map_nil]); first | done | rfl | (simp only [List.length_drop, List.length_take]; rfl)) ?_; (with_reducible refine (impl_RecDo.calls k3 t874 t875 _ _ t876 (rd y907 x70_3) (1 + ((l1.length : Int) % 3)) 0 0 0 0 0 0 (wrap64 (t874 + 1)) t911 t912 t913 true _ ?side1 ?side2 A72.out).mono ?_); (case side1 => repeat (first | exact (Kd.Q_reads' HO_889002.out).2.2 | (with_reducible refine Kd.C_alloc ?_ _) | (with_reducible refine Kd.C_drewN ?_ _) | (with_reducible refine Kd.C_drew ?_))); (case side2 => exact (Kd.Q_reads' HO_889002.out).2.1); rintro e w78 ⟨v914, rfl, ho0, hb⟩; refine ⟨_, rfl, ?_⟩; have n0_ := Aside0.mk (Kd.R_elder' (by (with_reducible repeat (first | apply Kd.R_alloc | apply Kd.R_drewN | apply Kd.R_drew)); exact HO_68.out) (Kd.R_base ho0) hb); have n1_ := Aside0.mk (Kd.Q_elder' (by (with_reducible repeat (first | apply Kd.Q_alloc | apply Kd.Q_drewN | apply Kd.Q_drew)); exact HO_889002.out) (Kd.R_base ho0) hb); have n2_ := Aside0.mk (Kd.Q_elder' (by (with_reducible repeat (first | apply Kd.Q_alloc | apply Kd.Q_drewN | apply Kd.Q_drew)); exact HO_897002.out) (Kd.R_base ho0) hb); have n3_ := Aside0.mk (Kd.Q_elder' (by (with_reducible repeat (first | apply Kd.Q_alloc | apply Kd.Q_drewN | apply Kd.Q_drew)); exact HO_904002.out) (Kd.R_base ho0) hb); have n4_ := Aside0.mk (Kd.R_lower (Kd.R_new' (Kd.R_new' (Kd.R_new' (Kd.R_new' ho0 (Kd.R_lt (by (with_reducible repeat (first | apply Kd.R_alloc | apply Kd.R_drewN | apply Kd.R_drew)); exact HO_68.out))) (Kd.Q_lt (by (with_reducible repeat (first | apply Kd.Q_alloc | apply Kd.Q_drewN | apply Kd.Q_drew)); exact HO_889002.out))) (Kd.Q_lt (by (with_reducible repeat (first | apply Kd.Q_alloc | apply Kd.Q_drewN | apply Kd.Q_drew)); exact HO_897002.out))) (Kd.Q_lt (by (with_reducible repeat (first | apply Kd.Q_alloc | apply Kd.Q_drewN | apply Kd.Q_drew)); exact HO_904002.out))) (below_size (by repeat (first | (with_reducible first | exact HB.out | apply below_alloc | apply pw_below_drewN | apply below_drew1 | refine below_set ?_ GE888.out | refine below_set ?_ GE889.out | refine below_set ?_ GE896.out | refine below_set ?_ GE903.out) | exact HB.out)))); have n5_ := Aside0.mk (blk_below (g := gb888) (o := .cells #[.int .i64 t874, .int .i64 t875, .slice Ao15 t876.length co15] 25 (0, 0)) (by (with_reducible repeat (first | refine blk_drewN ?_ _ | refine blk_drew ?_ | refine blk_alloc ?_ _)); exact BK888.out) hb); have n6_ := Aside0.mk (blk_below (g := gb889) (o := .cells #[.int .i64 t879, .int .i64 t880, .int .i64 t881, .int .i64 t882, .int .i64 t883, .int .i64 t884, .int .i64 t885, .int .i64 t886] 41 (0, 0)) (by (with_reducible repeat (first | refine blk_drewN ?_ _ | refine blk_drew ?_ | refine blk_alloc ?_ _)); exact BK889.out) hb); have n7_ := Aside0.mk (blk_below (g := gb896) (o := .cells #[.int .i64 t890, .int .i64 t891, .slice Ao22 t892.length co22] 25 (0, 0)) (by (with_reducible repeat (first | refine blk_drewN ?_ _ | refine blk_drew ?_ | refine blk_alloc ?_ _)); exact BK896.out) hb); have n8_ := Aside0.mk (blk_below (g := gb903) (o := .cells #[.int .i64 t897, .int .i64 t898, .slice Ao31 t899.length co31] 25 (0, 0)) (by (with_reducible repeat (first | refine blk_drewN ?_ _ | refine blk_drew ?_ | refine blk_alloc ?_ _)); exact BK903.out) hb); have n9_ := Aside0.mk (below_step (by repeat (first | (with_reducible first | exact HB.out | apply below_alloc | apply pw_below_drewN | apply below_drew1 | refine below_set ?_ GE888.out | refine below_set ?_ GE889.out | refine below_set ?_ GE896.out | refine below_set ?_ GE903.out) | exact HB.out)) hb); clear HO_68; clear HO_889002; clear HO_897002; clear HO_904002; clear BK888; clear BK889; clear BK896; clear BK903; clear HB; have HO_68 := n0_; have HO_889002 := n1_; have HO_897002 := n2_; have HO_904002 := n3_; have HO915 := n4_; have BK888 := n5_; have BK889 := n6_; have BK896 := n7_; have BK903 := n8_; have HB := n9_; clear n0_ n1_ n2_ n3_ n4_ n5_ n6_ n7_ n8_ n9_; (try clear hb); (try clear hb2); (try clear hk); (try clear hi); (try clear ho0)) | ((with_reducible refine gate_dst (N := 14) rfl ?_); (try (refine gate_guard (by rfl) ?_; dsimp only)); refine box_event ?hg (N := 14) ?hd (cs := #[.int .i64 0, .int .i64 0, .slice none 0 0]) (t := 25) ?hr ?_; (case hd => rfl); (case hg => rfl); (case hr => first | (go_simp; done) | (go_simp; rfl)); intro gb917 hg w79 hbox hb; have n0_ := Aside0.mk (Kd.R_below (by (with_reducible repeat (first | apply Kd.R_alloc | apply Kd.R_drewN | apply Kd.R_drew)); exact HO_68.out) hb); have n1_ := Aside0.mk (Kd.Q_below (by (with_reducible repeat (first | apply Kd.Q_alloc | apply Kd.Q_drewN | apply Kd.Q_drew)); exact HO_889002.out) hb); have n2_ := Aside0.mk (Kd.Q_below (by (with_reducible repeat (first | apply Kd.Q_alloc | apply Kd.Q_drewN | apply Kd.Q_drew)); exact HO_897002.out) hb); have n3_ := Aside0.mk (Kd.Q_below (by (with_reducible repeat (first | apply Kd.Q_alloc | apply Kd.Q_drewN | apply Kd.Q_drew)); exact HO_904002.out) hb); have n4_ := Aside0.mk (Kd.R_below (by (with_reducible repeat (first | apply Kd.R_alloc | apply Kd.R_drewN | apply Kd.R_drew)); exact HO915.out) hb); have n5_ := Aside0.mk (blk_below (g := gb888) (o := .cells #[.int .i64 t874, .int .i64 t875, .slice Ao15 t876.length co15] 25 (0, 0)) (by (with_reducible repeat (first | refine blk_drewN ?_ _ | refine blk_drew ?_ | refine blk_alloc ?_ _)); exact BK888.out) hb); have n6_ := Aside0.mk (blk_below (g := gb889) (o := .cells #[.int .i64 t879, .int .i64 t880, .int .i64 t881, .int .i64 t882, .int .i64 t883, .int .i64 t884, .int .i64 t885, .int .i64 t886] 41 (0, 0)) (by (with_reducible repeat (first | refine blk_drewN ?_ _ | refine blk_drew ?_ | refine blk_alloc ?_ _)); exact BK889.out) hb); have n7_ := Aside0.mk (blk_below (g := gb896) (o := .cells #[.int .i64 t890, .int .i64 t891, .slice Ao22 t892.length co22] 25 (0, 0)) (by (with_reducible repeat (first | refine blk_drewN ?_ _ | refine blk_drew ?_ | refine blk_alloc ?_ _)); exact BK896.out) hb); have n8_ := Aside0.mk (blk_below (g := gb903) (o := .cells #[.int .i64 t897, .int .i64 t898, .slice Ao31 t899.length co31] 25 (0, 0)) (by (with_reducible repeat (first | refine blk_drewN ?_ _ | refine blk_drew ?_ | refine blk_alloc ?_ _)); exact BK903.out) hb); have n9_ := Aside0.mk (below_step (by repeat (first | (with_reducible first | exact HB.out | apply below_alloc | apply pw_below_drewN | apply below_drew1 | refine below_set ?_ GE888.out | refine below_set ?_ GE889.out | refine below_set ?_ GE896.out | refine below_set ?_ GE903.out) | exact HB.out)) hb); have n10_ := Aside0.mk (hbox); have n11_ := Aside0.mk ((by rw [hg]; exact (below_size (by repeat (first | (with_reducible first | exact HB.out | apply below_alloc | apply pw_below_drewN | apply below_drew1 | refine below_set ?_ GE888.out | refine below_set ?_ GE889.out | refine below_set ?_ GE896.out | refine below_set ?_ GE903.out) | exact HB.out))) : w.heap.size ≤ gb917)); have n12_ := Aside0.mk ((by rw [hg]; exact (below_size (by repeat (first | (with_reducible first | exact HB.out | apply below_alloc | apply pw_below_drewN | apply below_drew1 | refine below_set ?_ GE888.out | refine below_set ?_ GE889.out | refine below_set ?_ GE896.out | refine below_set ?_ GE903.out) | exact HB.out))) : w.heap.size ≤ gb917)); have n13_ := Aside0.mk ((by rw [hg]; exact Nat.ne_of_lt (blk_lt (g := gb888) (o := .cells #[.int .i64 t874, .int .i64 t875, .slice Ao15 t876.length co15] 25 (0, 0)) (by (with_reducible repeat (first | refine blk_drewN ?_ _ | refine blk_drew ?_ | refine blk_alloc ?_ _)); exact BK888.out)) : gb888 ≠ gb917)); have n14_ := Aside0.mk ((by rw [hg]; exact Nat.ne_of_gt (blk_lt (g := gb888) (o := .cells #[.int .i64 t874, .int .i64 t875, .slice Ao15 t876.length co15] 25 (0, 0)) (by (with_reducible repeat (first | refine blk_drewN ?_ _ | refine blk_drew ?_ | refine blk_alloc ?_ _)); exact BK888.out)) : gb917 ≠ gb888)); have n15_ := Aside0.mk ((by rw [hg]; exact Nat.ne_of_lt (blk_lt (g := gb889) (o := .cells #[.int .i64 t879, .int .i64 t880, .int .i64 t881, .int .i64 t882, .int .i64 t883, .int .i64 t884, .int .i64 t885, .int .i64 t886] 41 (0, 0)) (by (with_reducible repeat (first | refine blk_drewN ?_ _ | refine blk_drew ?_ | refine blk_alloc ?_ _)); exact BK889.out)) : gb889 ≠ gb917)); have n16_ := Aside0.mk ((by rw [hg]; exact Nat.ne_of_gt (blk_lt (g := gb889) (o := .cells #[.int .i64 t879, .int .i64 t880, .int .i64 t881, .int .i64 t882, .int .i64 t883, .int .i64 t884, .int .i64 t885, .int .i64 t886] 41 (0, 0)) (by (with_reducible repeat (first | refine blk_drewN ?_ _ | refine blk_drew ?_ | refine blk_alloc ?_ _)); exact BK889.out)) : gb917 ≠ gb889)); have n17_ := Aside0.mk ((by rw [hg]; exact Nat.ne_of_lt (blk_lt (g := gb896) (o := .cells #[.int .i64 t890, .int .i64 t891, .slice Ao22 t892.length co22] 25 (0, 0)) (by (with_reducible repeat (first | refine blk_drewN ?_ _ | refine blk_drew ?_ | refine blk_alloc ?_ _)); exact BK896.out)) : gb896 ≠ gb917)); have n18_ := Aside0.mk ((by rw [hg]; exact Nat.ne_of_gt (blk_lt (g := gb896) (o := .cells #[.int .i64 t890, .int .i64 t891, .slice Ao22 t892.length co22] 25 (0, 0)) (by (with_reducible repeat (first | refine blk_drewN ?_ _ | refine blk_drew ?_ | refine blk_alloc ?_ _)); exact BK896.out)) : gb917 ≠ gb896)); have n19_ := Aside0.mk ((by rw [hg]; exact Nat.ne_of_lt (blk_lt (g := gb903) (o := .cells #[.int .i64 t897, .int .i64 t898, .slice Ao31 t899.length co31] 25 (0, 0)) (by (with_reducible repeat (first | refine blk_drewN ?_ _ | refine blk_drew ?_ | refine blk_alloc ?_ _)); exact BK903.out)) : gb903 ≠ gb917)); have n20_ := Aside0.mk ((by rw [hg]; exact Nat.ne_of_gt (blk_lt (g := gb903) (o := .cells #[.int .i64 t897, .int .i64 t898, .slice Ao31 t899.length co31] 25 (0, 0)) (by (with_reducible repeat (first | refine blk_drewN ?_ _ | refine blk_drew ?_ | refine blk_alloc ?_ _)); exact BK903.out)) : gb917 ≠ gb903)); clear HO_68; clear HO_889002; clear HO_897002; clear HO_904002; clear HO915; clear BK888; clear BK889; clear BK896; clear BK903; clear HB; have HO_68 := n0_; have HO_889002 := n1_; have HO_897002 := n2_; have HO_904002 := n3_; have HO915 := n4_; have BK888 := n5_; have BK889 := n6_; have BK896 := n7_; have BK903 := n8_; have HB := n9_; have BK917 := n10_; have GW917 := n11_; have GE917 := n12_; have NB888_917 := n13_; have NB917_888 := n14_; have NB889_917 := n15_; have NB917_889 := n16_; have NB896_917 := n17_; have NB917_896 := n18_; have NB903_917 := n19_; have NB917_903 := n20_; clear n0_ n1_ n2_ n3_ n4_ n5_ n6_ n7_ n8_ n9_ n10_ n11_ n12_ n13_ n14_ n15_ n16_ n17_ n18_ n19_ n20_; clear hb hbox hg; have hnb80 := NB917_888.out; have hnc80 := NB888_917.out; have hnb81 := NB917_889.out; have hnc81 := NB889_917.out; have hnb82 := NB917_896.out; have hnc82 := NB896_917.out; have hnb83 := NB917_903.out; have hnc83 := NB903_917.out; have hcz84_0 : w79.cell? ⟨gb917, 0, none⟩ = some (.int .i64 0) := (blk_cell BK917.out 0).trans rfl; have hcz84_1 : w79.cell? ⟨gb917, 1, none⟩ = some (.int .i64 0) := (blk_cell BK917.out 1).trans rfl; have hcz84_2 : w79.cell? ⟨gb917, 2, none⟩ = some (.slice none 0 0) := (blk_cell BK917.out 2).trans rfl; have hfz84_0 := blk_frozen BK917.out 0; have hfz84_1 := blk_frozen BK917.out 1; have hfz84_2 := blk_frozen BK917.out 2; obtain ⟨Ao85, co85, eo85⟩ := Kd.R_slice HO915.out; subst eo85))
                          go_ret
                          exact ⟨by first | rfl | (simp [errW_none, errW_some] <;> rfl) | (simp [*, errW_none, errW_some] <;> rfl), by repeat (first | (with_reducible first | exact HB.out | apply below_alloc | apply pw_below_drewN | apply below_drew1 | refine below_set ?_ GE888.out | refine below_set ?_ GE889.out | refine below_set ?_ GE896.out | refine below_set ?_ GE903.out | refine below_set ?_ GE917.out) | exact HB.out)⟩
                        · replace c73 := Bool.eq_false_iff.mpr c73
                          subst c73
                          have H1 : (laws_FnRecKinds.l0 k3 l1 y907 (y907.length : Int) (wrap64 (x70_3 + 1)) t874 t875 t876 t879 t880 t881 t882 t883 t884 t885 t886) = some r := by rw [if_neg (show ¬ (false = true) by decide)] at H; exact H
                          clear H
                          have H := H1
                          clear H1
                          have H' := Aside0.mk H
                          clear H
                          have p910 : 0 ≤ (x70_3 : Int) := of_decide_eq_true (by first | (with_reducible assumption) | assumption)
                          have q910 : x70_3 < (y907.length : Int) := of_decide_eq_true (by first | (with_reducible assumption) | assumption)
                          obtain ⟨ad910, e910, hx910_0⟩ := Kd.at_int (Kd.R_reads' HO_68.out).2.2 x70_3 p910 q910
                          cases e910
                          replace p910 := eq_true p910
                          replace q910 := eq_true q910
                          have hnb86 := NB888_889.out
                          have hnc86 := NB889_888.out
                          have hnb87 := NB888_896.out
                          have hnc87 := NB896_888.out
                          have hnb88 := NB888_903.out
                          have hnc88 := NB903_888.out
                          have hcz89_0 : wr.cell? ⟨gb888, 0, none⟩ = some (.int .i64 t874) := (blk_cell BK888.out 0).trans rfl
                          have hcz89_1 : wr.cell? ⟨gb888, 1, none⟩ = some (.int .i64 t875) := (blk_cell BK888.out 1).trans rfl
                          have hcz89_2 : wr.cell? ⟨gb888, 2, none⟩ = some (.slice Ao15 t876.length co15) := (blk_cell BK888.out 2).trans rfl
                          have hfz89_0 := blk_frozen BK888.out 0
                          have hfz89_1 := blk_frozen BK888.out 1
                          have hfz89_2 := blk_frozen BK888.out 2
                          go_wp2_with (first | ((with_reducible refine gate_callee (f := 42) rfl ?_); refine goesL_ (some 85) rfl rfl Try.func42 (by kernel_rfl) rfl #[.agg #[.int .i64 t874, .int .i64 t875, .slice Ao15 t876.length co15], .agg #[.int .i64 (rd y907 x70_3), .int .i64 (1 + ((l1.length : Int) % 3)), .int .i64 0, .int .i64 0, .int .i64 0, .int .i64 0, .int .i64 0, .int .i64 0], .int .i64 (wrap64 (t874 + 1))] rfl (by (try simp only [List.map_toArray, List.map_cons, List.map_nil]); first | done | rfl | (simp only [List.length_drop, List.length_take]; rfl)) ?_; (with_reducible refine (impl_RecDo.calls k3 t874 t875 _ _ t876 (rd y907 x70_3) (1 + ((l1.length : Int) % 3)) 0 0 0 0 0 0 (wrap64 (t874 + 1)) t911 t912 t913 false _ ?side1 ?side2 A72.out).mono ?_); (case side1 => repeat (first | exact (Kd.Q_reads' HO_889002.out).2.2 | (with_reducible refine Kd.C_alloc ?_ _) | (with_reducible refine Kd.C_drewN ?_ _) | (with_reducible refine Kd.C_drew ?_))); (case side2 => exact (Kd.Q_reads' HO_889002.out).2.1); rintro e w90 ⟨v914, rfl, ho0, hb⟩; refine ⟨_, rfl, ?_⟩; have n0_ := Aside0.mk (Kd.R_elder' (by (with_reducible repeat (first | apply Kd.R_alloc | apply Kd.R_drewN | apply Kd.R_drew)); exact HO_68.out) (Kd.R_base ho0) hb); have n1_ := Aside0.mk (Kd.Q_elder' (by (with_reducible repeat (first | apply Kd.Q_alloc | apply Kd.Q_drewN | apply Kd.Q_drew)); exact HO_889002.out) (Kd.R_base ho0) hb); have n2_ := Aside0.mk (Kd.Q_elder' (by (with_reducible repeat (first | apply Kd.Q_alloc | apply Kd.Q_drewN | apply Kd.Q_drew)); exact HO_897002.out) (Kd.R_base ho0) hb); have n3_ := Aside0.mk (Kd.Q_elder' (by (with_reducible repeat (first | apply Kd.Q_alloc | apply Kd.Q_drewN | apply Kd.Q_drew)); exact HO_904002.out) (Kd.R_base ho0) hb); have n4_ := Aside0.mk (Kd.R_lower (Kd.R_new' (Kd.R_new' (Kd.R_new' (Kd.R_new' ho0 (Kd.R_lt (by (with_reducible repeat (first | apply Kd.R_alloc | apply Kd.R_drewN | apply Kd.R_drew)); exact HO_68.out))) (Kd.Q_lt (by (with_reducible repeat (first | apply Kd.Q_alloc | apply Kd.Q_drewN | apply Kd.Q_drew)); exact HO_889002.out))) (Kd.Q_lt (by (with_reducible repeat (first | apply Kd.Q_alloc | apply Kd.Q_drewN | apply Kd.Q_drew)); exact HO_897002.out))) (Kd.Q_lt (by (with_reducible repeat (first | apply Kd.Q_alloc | apply Kd.Q_drewN | apply Kd.Q_drew)); exact HO_904002.out))) (below_size (by repeat (first | (with_reducible first | exact HB.out | apply below_alloc | apply pw_below_drewN | apply below_drew1 | refine below_set ?_ GE888.out | refine below_set ?_ GE889.out | refine below_set ?_ GE896.out | refine below_set ?_ GE903.out) | exact HB.out)))); have n5_ := Aside0.mk (blk_below (g := gb888) (o := .cells #[.int .i64 t874, .int .i64 t875, .slice Ao15 t876.length co15] 25 (0, 0)) (by (with_reducible repeat (first | refine blk_drewN ?_ _ | refine blk_drew ?_ | refine blk_alloc ?_ _)); exact BK888.out) hb); have n6_ := Aside0.mk (blk_below (g := gb889) (o := .cells #[.int .i64 t879, .int .i64 t880, .int .i64 t881, .int .i64 t882, .int .i64 t883, .int .i64 t884, .int .i64 t885, .int .i64 t886] 41 (0, 0)) (by (with_reducible repeat (first | refine blk_drewN ?_ _ | refine blk_drew ?_ | refine blk_alloc ?_ _)); exact BK889.out) hb); have n7_ := Aside0.mk (blk_below (g := gb896) (o := .cells #[.int .i64 t890, .int .i64 t891, .slice Ao22 t892.length co22] 25 (0, 0)) (by (with_reducible repeat (first | refine blk_drewN ?_ _ | refine blk_drew ?_ | refine blk_alloc ?_ _)); exact BK896.out) hb); have n8_ := Aside0.mk (blk_below (g := gb903) (o := .cells #[.int .i64 t897, .int .i64 t898, .slice Ao31 t899.length co31] 25 (0, 0)) (by (with_reducible repeat (first | refine blk_drewN ?_ _ | refine blk_drew ?_ | refine blk_alloc ?_ _)); exact BK903.out) hb); have n9_ := Aside0.mk (below_step (by repeat (first | (with_reducible first | exact HB.out | apply below_alloc | apply pw_below_drewN | apply below_drew1 | refine below_set ?_ GE888.out | refine below_set ?_ GE889.out | refine below_set ?_ GE896.out | refine below_set ?_ GE903.out) | exact HB.out)) hb); clear HO_68; clear HO_889002; clear HO_897002; clear HO_904002; clear BK888; clear BK889; clear BK896; clear BK903; clear HB; have HO_68 := n0_; have HO_889002 := n1_; have HO_897002 := n2_; have HO_904002 := n3_; have HO915 := n4_; have BK888 := n5_; have BK889 := n6_; have BK896 := n7_; have BK903 := n8_; have HB := n9_; clear n0_ n1_ n2_ n3_ n4_ n5_ n6_ n7_ n8_ n9_; (try clear hb); (try clear hb2); (try clear hk); (try clear hi); (try clear ho0)) | ((with_reducible refine gate_dst (N := 14) rfl ?_); (try (refine gate_guard (by rfl) ?_; dsimp only)); refine box_event ?hg (N := 14) ?hd (cs := #[.int .i64 0, .int .i64 0, .slice none 0 0]) (t := 25) ?hr ?_; (case hd => rfl); (case hg => rfl); (case hr => first | (go_simp; done) | (go_simp; rfl)); intro gb917 hg w91 hbox hb; have n0_ := Aside0.mk (Kd.R_below (by (with_reducible repeat (first | apply Kd.R_alloc | apply Kd.R_drewN | apply Kd.R_drew)); exact HO_68.out) hb); have n1_ := Aside0.mk (Kd.Q_below (by (with_reducible repeat (first | apply Kd.Q_alloc | apply Kd.Q_drewN | apply Kd.Q_drew)); exact HO_889002.out) hb); have n2_ := Aside0.mk (Kd.Q_below (by (with_reducible repeat (first | apply Kd.Q_alloc | apply Kd.Q_drewN | apply Kd.Q_drew)); exact HO_897002.out) hb); have n3_ := Aside0.mk (Kd.Q_below (by (with_reducible repeat (first | apply Kd.Q_alloc | apply Kd.Q_drewN | apply Kd.Q_drew)); exact HO_904002.out) hb); have n4_ := Aside0.mk (Kd.R_below (by (with_reducible repeat (first | apply Kd.R_alloc | apply Kd.R_drewN | apply Kd.R_drew)); exact HO915.out) hb); have n5_ := Aside0.mk (blk_below (g := gb888) (o := .cells #[.int .i64 t874, .int .i64 t875, .slice Ao15 t876.length co15] 25 (0, 0)) (by (with_reducible repeat (first | refine blk_drewN ?_ _ | refine blk_drew ?_ | refine blk_alloc ?_ _)); exact BK888.out) hb); have n6_ := Aside0.mk (blk_below (g := gb889) (o := .cells #[.int .i64 t879, .int .i64 t880, .int .i64 t881, .int .i64 t882, .int .i64 t883, .int .i64 t884, .int .i64 t885, .int .i64 t886] 41 (0, 0)) (by (with_reducible repeat (first | refine blk_drewN ?_ _ | refine blk_drew ?_ | refine blk_alloc ?_ _)); exact BK889.out) hb); have n7_ := Aside0.mk (blk_below (g := gb896) (o := .cells #[.int .i64 t890, .int .i64 t891, .slice Ao22 t892.length co22] 25 (0, 0)) (by (with_reducible repeat (first | refine blk_drewN ?_ _ | refine blk_drew ?_ | refine blk_alloc ?_ _)); exact BK896.out) hb); have n8_ := Aside0.mk (blk_below (g := gb903) (o := .cells #[.int .i64 t897, .int .i64 t898, .slice Ao31 t899.length co31] 25 (0, 0)) (by (with_reducible repeat (first | refine blk_drewN ?_ _ | refine blk_drew ?_ | refine blk_alloc ?_ _)); exact BK903.out) hb); have n9_ := Aside0.mk (below_step (by repeat (first | (with_reducible first | exact HB.out | apply below_alloc | apply pw_below_drewN | apply below_drew1 | refine below_set ?_ GE888.out | refine below_set ?_ GE889.out | refine below_set ?_ GE896.out | refine below_set ?_ GE903.out) | exact HB.out)) hb); have n10_ := Aside0.mk (hbox); have n11_ := Aside0.mk ((by rw [hg]; exact (below_size (by repeat (first | (with_reducible first | exact HB.out | apply below_alloc | apply pw_below_drewN | apply below_drew1 | refine below_set ?_ GE888.out | refine below_set ?_ GE889.out | refine below_set ?_ GE896.out | refine below_set ?_ GE903.out) | exact HB.out))) : w.heap.size ≤ gb917)); have n12_ := Aside0.mk ((by rw [hg]; exact (below_size (by repeat (first | (with_reducible first | exact HB.out | apply below_alloc | apply pw_below_drewN | apply below_drew1 | refine below_set ?_ GE888.out | refine below_set ?_ GE889.out | refine below_set ?_ GE896.out | refine below_set ?_ GE903.out) | exact HB.out))) : w.heap.size ≤ gb917)); have n13_ := Aside0.mk ((by rw [hg]; exact Nat.ne_of_lt (blk_lt (g := gb888) (o := .cells #[.int .i64 t874, .int .i64 t875, .slice Ao15 t876.length co15] 25 (0, 0)) (by (with_reducible repeat (first | refine blk_drewN ?_ _ | refine blk_drew ?_ | refine blk_alloc ?_ _)); exact BK888.out)) : gb888 ≠ gb917)); have n14_ := Aside0.mk ((by rw [hg]; exact Nat.ne_of_gt (blk_lt (g := gb888) (o := .cells #[.int .i64 t874, .int .i64 t875, .slice Ao15 t876.length co15] 25 (0, 0)) (by (with_reducible repeat (first | refine blk_drewN ?_ _ | refine blk_drew ?_ | refine blk_alloc ?_ _)); exact BK888.out)) : gb917 ≠ gb888)); have n15_ := Aside0.mk ((by rw [hg]; exact Nat.ne_of_lt (blk_lt (g := gb889) (o := .cells #[.int .i64 t879, .int .i64 t880, .int .i64 t881, .int .i64 t882, .int .i64 t883, .int .i64 t884, .int .i64 t885, .int .i64 t886] 41 (0, 0)) (by (with_reducible repeat (first | refine blk_drewN ?_ _ | refine blk_drew ?_ | refine blk_alloc ?_ _)); exact BK889.out)) : gb889 ≠ gb917)); have n16_ := Aside0.mk ((by rw [hg]; exact Nat.ne_of_gt (blk_lt (g := gb889) (o := .cells #[.int .i64 t879, .int .i64 t880, .int .i64 t881, .int .i64 t882, .int .i64 t883, .int .i64 t884, .int .i64 t885, .int .i64 t886] 41 (0, 0)) (by (with_reducible repeat (first | refine blk_drewN ?_ _ | refine blk_drew ?_ | refine blk_alloc ?_ _)); exact BK889.out)) : gb917 ≠ gb889)); have n17_ := Aside0.mk ((by rw [hg]; exact Nat.ne_of_lt (blk_lt (g := gb896) (o := .cells #[.int .i64 t890, .int .i64 t891, .slice Ao22 t892.length co22] 25 (0, 0)) (by (with_reducible repeat (first | refine blk_drewN ?_ _ | refine blk_drew ?_ | refine blk_alloc ?_ _)); exact BK896.out)) : gb896 ≠ gb917)); have n18_ := Aside0.mk ((by rw [hg]; exact Nat.ne_of_gt (blk_lt (g := gb896) (o := .cells #[.int .i64 t890, .int .i64 t891, .slice Ao22 t892.length co22] 25 (0, 0)) (by (with_reducible repeat (first | refine blk_drewN ?_ _ | refine blk_drew ?_ | refine blk_alloc ?_ _)); exact BK896.out)) : gb917 ≠ gb896)); have n19_ := Aside0.mk ((by rw [hg]; exact Nat.ne_of_lt (blk_lt (g := gb903) (o := .cells #[.int .i64 t897, .int .i64 t898, .slice Ao31 t899.length co31] 25 (0, 0)) (by (with_reducible repeat (first | refine blk_drewN ?_ _ | refine blk_drew ?_ | refine blk_alloc ?_ _)); exact BK903.out)) : gb903 ≠ gb917)); have n20_ := Aside0.mk ((by rw [hg]; exact Nat.ne_of_gt (blk_lt (g := gb903) (o := .cells #[.int .i64 t897, .int .i64 t898, .slice Ao31 t899.length co31] 25 (0, 0)) (by (with_reducible repeat (first | refine blk_drewN ?_ _ | refine blk_drew ?_ | refine blk_alloc ?_ _)); exact BK903.out)) : gb917 ≠ gb903)); clear HO_68; clear HO_889002; clear HO_897002; clear HO_904002; clear HO915; clear BK888; clear BK889; clear BK896; clear BK903; clear HB; have HO_68 := n0_; have HO_889002 := n1_; have HO_897002 := n2_; have HO_904002 := n3_; have HO915 := n4_; have BK888 := n5_; have BK889 := n6_; have BK896 := n7_; have BK903 := n8_; have HB := n9_; have BK917 := n10_; have GW917 := n11_; have GE917 := n12_; have NB888_917 := n13_; have NB917_888 := n14_; have NB889_917 := n15_; have NB917_889 := n16_; have NB896_917 := n17_; have NB917_896 := n18_; have NB903_917 := n19_; have NB917_903 := n20_; clear n0_ n1_ n2_ n3_ n4_ n5_ n6_ n7_ n8_ n9_ n10_ n11_ n12_ n13_ n14_ n15_ n16_ n17_ n18_ n19_ n20_; clear hb hbox hg; have hnb92 := NB917_888.out; have hnc92 := NB888_917.out; have hnb93 := NB917_889.out; have hnc93 := NB889_917.out; have hnb94 := NB917_896.out; have hnc94 := NB896_917.out; have hnb95 := NB917_903.out; have hnc95 := NB903_917.out; have hcz96_0 : w91.cell? ⟨gb917, 0, none⟩ = some (.int .i64 0) := (blk_cell BK917.out 0).trans rfl; have hcz96_1 : w91.cell? ⟨gb917, 1, none⟩ = some (.int .i64 0) := (blk_cell BK917.out 1).trans rfl; have hcz96_2 : w91.cell? ⟨gb917, 2, none⟩ = some (.slice none 0 0) := (blk_cell BK917.out 2).trans rfl; have hfz96_0 := blk_frozen BK917.out 0; have hfz96_1 := blk_frozen BK917.out 1; have hfz96_2 := blk_frozen BK917.out 2; obtain ⟨Ao97, co97, eo97⟩ := Kd.R_slice HO915.out; subst eo97))
                          go_roundg k3
                          case measure => have := HJ2.out; have := HJ8.out; have := HK3.out; omega
                          case rel => exact ⟨(wrap64 (x70_3 + 1)), (by first | rfl | (simp; done) | (simp [*]; done)), H', ⟨by have := HJ2.out; have := HJ8.out; have := HK3.out; omega⟩, ⟨by (with_reducible repeat (first | apply Kd.R_alloc | apply Kd.R_drewN | apply Kd.R_drew)); exact Kd.R_mono (Kd.R_far (p := ⟨gb917, 2, none⟩) (Kd.R_far (p := ⟨gb917, 1, none⟩) (Kd.R_far (p := ⟨gb917, 0, none⟩) (Kd.R_types HO_68.out BK917.out (by decide)) (fun _ hk => hk.2) (.int .i64 t911)) (fun _ hk => hk.2) (.int .i64 t912)) (fun _ hk => hk.2) (.slice Ao97 t913.length co97)) (fun _ hk => ⟨hk.1.1.1, ⟨hk.1.1.2.1, hk.1.1.2.2⟩⟩)⟩, ⟨by (with_reducible repeat (first | apply Kd.Q_alloc | apply Kd.Q_drewN | apply Kd.Q_drew)); exact Kd.Q_mono (Kd.Q_far (p := ⟨gb917, 2, none⟩) (Kd.Q_far (p := ⟨gb917, 1, none⟩) (Kd.Q_far (p := ⟨gb917, 0, none⟩) (Kd.Q_types HO_889002.out BK917.out (by decide)) (fun _ hk => hk.2) (.int .i64 t911)) (fun _ hk => hk.2) (.int .i64 t912)) (fun _ hk => hk.2) (.slice Ao97 t913.length co97)) (fun _ hk => ⟨hk.1.1.1, ⟨hk.1.1.2.1, hk.1.1.2.2⟩⟩)⟩, ⟨by (with_reducible repeat (first | apply Kd.Q_alloc | apply Kd.Q_drewN | apply Kd.Q_drew)); exact Kd.Q_mono (Kd.Q_far (p := ⟨gb917, 2, none⟩) (Kd.Q_far (p := ⟨gb917, 1, none⟩) (Kd.Q_far (p := ⟨gb917, 0, none⟩) (Kd.Q_types HO_897002.out BK917.out (by decide)) (fun _ hk => hk.2) (.int .i64 t911)) (fun _ hk => hk.2) (.int .i64 t912)) (fun _ hk => hk.2) (.slice Ao97 t913.length co97)) (fun _ hk => ⟨hk.1.1.1, ⟨hk.1.1.2.1, hk.1.1.2.2⟩⟩)⟩, ⟨by (with_reducible repeat (first | apply Kd.Q_alloc | apply Kd.Q_drewN | apply Kd.Q_drew)); exact Kd.Q_mono (Kd.Q_far (p := ⟨gb917, 2, none⟩) (Kd.Q_far (p := ⟨gb917, 1, none⟩) (Kd.Q_far (p := ⟨gb917, 0, none⟩) (Kd.Q_types HO_904002.out BK917.out (by decide)) (fun _ hk => hk.2) (.int .i64 t911)) (fun _ hk => hk.2) (.int .i64 t912)) (fun _ hk => hk.2) (.slice Ao97 t913.length co97)) (fun _ hk => ⟨hk.1.1.1, ⟨hk.1.1.2.1, hk.1.1.2.2⟩⟩)⟩, ⟨by (with_reducible repeat (first | refine blk_drewN ?_ _ | refine blk_drew ?_ | refine blk_alloc ?_ _)); refine blk_far ?_ NB888_917.out _; (with_reducible repeat (first | refine blk_drewN ?_ _ | refine blk_drew ?_ | refine blk_alloc ?_ _)); refine blk_far ?_ NB888_917.out _; (with_reducible repeat (first | refine blk_drewN ?_ _ | refine blk_drew ?_ | refine blk_alloc ?_ _)); refine blk_far ?_ NB888_917.out _; (with_reducible repeat (first | refine blk_drewN ?_ _ | refine blk_drew ?_ | refine blk_alloc ?_ _)); exact BK888.out⟩, ⟨by (with_reducible repeat (first | refine blk_drewN ?_ _ | refine blk_drew ?_ | refine blk_alloc ?_ _)); refine blk_far ?_ NB889_917.out _; (with_reducible repeat (first | refine blk_drewN ?_ _ | refine blk_drew ?_ | refine blk_alloc ?_ _)); refine blk_far ?_ NB889_917.out _; (with_reducible repeat (first | refine blk_drewN ?_ _ | refine blk_drew ?_ | refine blk_alloc ?_ _)); refine blk_far ?_ NB889_917.out _; (with_reducible repeat (first | refine blk_drewN ?_ _ | refine blk_drew ?_ | refine blk_alloc ?_ _)); exact BK889.out⟩, ⟨by (with_reducible repeat (first | refine blk_drewN ?_ _ | refine blk_drew ?_ | refine blk_alloc ?_ _)); refine blk_far ?_ NB896_917.out _; (with_reducible repeat (first | refine blk_drewN ?_ _ | refine blk_drew ?_ | refine blk_alloc ?_ _)); refine blk_far ?_ NB896_917.out _; (with_reducible repeat (first | refine blk_drewN ?_ _ | refine blk_drew ?_ | refine blk_alloc ?_ _)); refine blk_far ?_ NB896_917.out _; (with_reducible repeat (first | refine blk_drewN ?_ _ | refine blk_drew ?_ | refine blk_alloc ?_ _)); exact BK896.out⟩, ⟨by (with_reducible repeat (first | refine blk_drewN ?_ _ | refine blk_drew ?_ | refine blk_alloc ?_ _)); refine blk_far ?_ NB903_917.out _; (with_reducible repeat (first | refine blk_drewN ?_ _ | refine blk_drew ?_ | refine blk_alloc ?_ _)); refine blk_far ?_ NB903_917.out _; (with_reducible repeat (first | refine blk_drewN ?_ _ | refine blk_drew ?_ | refine blk_alloc ?_ _)); refine blk_far ?_ NB903_917.out _; (with_reducible repeat (first | refine blk_drewN ?_ _ | refine blk_drew ?_ | refine blk_alloc ?_ _)); exact BK903.out⟩, ⟨by repeat (first | (with_reducible first | exact HB.out | apply below_alloc | apply pw_below_drewN | apply below_drew1 | refine below_set ?_ GE888.out | refine below_set ?_ GE889.out | refine below_set ?_ GE896.out | refine below_set ?_ GE903.out | refine below_set ?_ GE917.out) | exact HB.out)⟩⟩
                      · rw [if_neg c71] at H
                        exact absurd H (by simp)
                    · rw [if_neg c70] at H
                      exact absurd H (by simp)
                  · rw [if_neg c69] at H
                    have c69b0 : decide (x70_3 < (y907.length : Int)) = false := decide_eq_false c69
                    clear c69
                    replace H := Option.bind_eq_some_iff.mp H
                    obtain ⟨⟨t918, t919, t920, t923⟩, A980, H⟩ := H
                    replace H : (some (!t923)) = some r := H
                    have A98 := Aside0.mk A980
                    clear A980
                    obtain rfl := Option.some.inj H
                    have hnb99 := NB888_889.out
                    have hnc99 := NB889_888.out
                    have hnb100 := NB888_896.out
                    have hnc100 := NB896_888.out
                    have hnb101 := NB888_903.out
                    have hnc101 := NB903_888.out
                    have hcz102_0 : wr.cell? ⟨gb888, 0, none⟩ = some (.int .i64 t874) := (blk_cell BK888.out 0).trans rfl
                    have hcz102_1 : wr.cell? ⟨gb888, 1, none⟩ = some (.int .i64 t875) := (blk_cell BK888.out 1).trans rfl
                    have hcz102_2 : wr.cell? ⟨gb888, 2, none⟩ = some (.slice Ao15 t876.length co15) := (blk_cell BK888.out 2).trans rfl
                    have hfz102_0 := blk_frozen BK888.out 0
                    have hfz102_1 := blk_frozen BK888.out 1
                    have hfz102_2 := blk_frozen BK888.out 2
                    have hnb103 := NB889_896.out
                    have hnc103 := NB896_889.out
                    have hnb104 := NB889_903.out
                    have hnc104 := NB903_889.out
                    have hcz105_0 : wr.cell? ⟨gb889, 0, none⟩ = some (.int .i64 t879) := (blk_cell BK889.out 0).trans rfl
                    have hcz105_1 : wr.cell? ⟨gb889, 1, none⟩ = some (.int .i64 t880) := (blk_cell BK889.out 1).trans rfl
                    have hcz105_2 : wr.cell? ⟨gb889, 2, none⟩ = some (.int .i64 t881) := (blk_cell BK889.out 2).trans rfl
                    have hcz105_3 : wr.cell? ⟨gb889, 3, none⟩ = some (.int .i64 t882) := (blk_cell BK889.out 3).trans rfl
                    have hcz105_4 : wr.cell? ⟨gb889, 4, none⟩ = some (.int .i64 t883) := (blk_cell BK889.out 4).trans rfl
                    have hcz105_5 : wr.cell? ⟨gb889, 5, none⟩ = some (.int .i64 t884) := (blk_cell BK889.out 5).trans rfl
                    have hcz105_6 : wr.cell? ⟨gb889, 6, none⟩ = some (.int .i64 t885) := (blk_cell BK889.out 6).trans rfl
                    have hcz105_7 : wr.cell? ⟨gb889, 7, none⟩ = some (.int .i64 t886) := (blk_cell BK889.out 7).trans rfl
                    have hfz105_0 := blk_frozen BK889.out 0
                    have hfz105_1 := blk_frozen BK889.out 1
                    have hfz105_2 := blk_frozen BK889.out 2
                    have hfz105_3 := blk_frozen BK889.out 3
                    have hfz105_4 := blk_frozen BK889.out 4
                    have hfz105_5 := blk_frozen BK889.out 5
                    have hfz105_6 := blk_frozen BK889.out 6
                    have hfz105_7 := blk_frozen BK889.out 7
                    go_wp2_with (first | ((with_reducible refine gate_callee (f := 42) rfl ?_); refine goesL_ (some 93) rfl rfl Try.func42 (by kernel_rfl) rfl #[.agg #[.int .i64 t874, .int .i64 t875, .slice Ao15 t876.length co15], .agg #[.int .i64 t879, .int .i64 t880, .int .i64 t881, .int .i64 t882, .int .i64 t883, .int .i64 t884, .int .i64 t885, .int .i64 t886], .int .i64 151] rfl (by (try simp only [List.map_toArray, List.map_cons, List.map_nil]); first | done | rfl | (simp only [List.length_drop, List.length_take]; rfl)) ?_; (with_reducible refine (impl_RecDo.calls k3 t874 t875 _ _ t876 t879 t880 t881 t882 t883 t884 t885 t886 151 t918 t919 t920 t923 _ ?side1 ?side2 A98.out).mono ?_); (case side1 => repeat (first | exact (Kd.Q_reads' HO_889002.out).2.2 | (with_reducible refine Kd.C_alloc ?_ _) | (with_reducible refine Kd.C_drewN ?_ _) | (with_reducible refine Kd.C_drew ?_))); (case side2 => exact (Kd.Q_reads' HO_889002.out).2.1); rintro e w106 ⟨v921, rfl, ho0, hb⟩; refine ⟨_, rfl, ?_⟩; have n0_ := Aside0.mk (Kd.R_elder' (by (with_reducible repeat (first | apply Kd.R_alloc | apply Kd.R_drewN | apply Kd.R_drew)); exact HO_68.out) (Kd.R_base ho0) hb); have n1_ := Aside0.mk (Kd.Q_elder' (by (with_reducible repeat (first | apply Kd.Q_alloc | apply Kd.Q_drewN | apply Kd.Q_drew)); exact HO_889002.out) (Kd.R_base ho0) hb); have n2_ := Aside0.mk (Kd.Q_elder' (by (with_reducible repeat (first | apply Kd.Q_alloc | apply Kd.Q_drewN | apply Kd.Q_drew)); exact HO_897002.out) (Kd.R_base ho0) hb); have n3_ := Aside0.mk (Kd.Q_elder' (by (with_reducible repeat (first | apply Kd.Q_alloc | apply Kd.Q_drewN | apply Kd.Q_drew)); exact HO_904002.out) (Kd.R_base ho0) hb); have n4_ := Aside0.mk (Kd.R_lower (Kd.R_new' (Kd.R_new' (Kd.R_new' (Kd.R_new' ho0 (Kd.R_lt (by (with_reducible repeat (first | apply Kd.R_alloc | apply Kd.R_drewN | apply Kd.R_drew)); exact HO_68.out))) (Kd.Q_lt (by (with_reducible repeat (first | apply Kd.Q_alloc | apply Kd.Q_drewN | apply Kd.Q_drew)); exact HO_889002.out))) (Kd.Q_lt (by (with_reducible repeat (first | apply Kd.Q_alloc | apply Kd.Q_drewN | apply Kd.Q_drew)); exact HO_897002.out))) (Kd.Q_lt (by (with_reducible repeat (first | apply Kd.Q_alloc | apply Kd.Q_drewN | apply Kd.Q_drew)); exact HO_904002.out))) (below_size (by repeat (first | (with_reducible first | exact HB.out | apply below_alloc | apply pw_below_drewN | apply below_drew1 | refine below_set ?_ GE888.out | refine below_set ?_ GE889.out | refine below_set ?_ GE896.out | refine below_set ?_ GE903.out) | exact HB.out)))); have n5_ := Aside0.mk (blk_below (g := gb888) (o := .cells #[.int .i64 t874, .int .i64 t875, .slice Ao15 t876.length co15] 25 (0, 0)) (by (with_reducible repeat (first | refine blk_drewN ?_ _ | refine blk_drew ?_ | refine blk_alloc ?_ _)); exact BK888.out) hb); have n6_ := Aside0.mk (blk_below (g := gb889) (o := .cells #[.int .i64 t879, .int .i64 t880, .int .i64 t881, .int .i64 t882, .int .i64 t883, .int .i64 t884, .int .i64 t885, .int .i64 t886] 41 (0, 0)) (by (with_reducible repeat (first | refine blk_drewN ?_ _ | refine blk_drew ?_ | refine blk_alloc ?_ _)); exact BK889.out) hb); have n7_ := Aside0.mk (blk_below (g := gb896) (o := .cells #[.int .i64 t890, .int .i64 t891, .slice Ao22 t892.length co22] 25 (0, 0)) (by (with_reducible repeat (first | refine blk_drewN ?_ _ | refine blk_drew ?_ | refine blk_alloc ?_ _)); exact BK896.out) hb); have n8_ := Aside0.mk (blk_below (g := gb903) (o := .cells #[.int .i64 t897, .int .i64 t898, .slice Ao31 t899.length co31] 25 (0, 0)) (by (with_reducible repeat (first | refine blk_drewN ?_ _ | refine blk_drew ?_ | refine blk_alloc ?_ _)); exact BK903.out) hb); have n9_ := Aside0.mk (below_step (by repeat (first | (with_reducible first | exact HB.out | apply below_alloc | apply pw_below_drewN | apply below_drew1 | refine below_set ?_ GE888.out | refine below_set ?_ GE889.out | refine below_set ?_ GE896.out | refine below_set ?_ GE903.out) | exact HB.out)) hb); clear HO_68; clear HO_889002; clear HO_897002; clear HO_904002; clear BK888; clear BK889; clear BK896; clear BK903; clear HB; have HO_68 := n0_; have HO_889002 := n1_; have HO_897002 := n2_; have HO_904002 := n3_; have HO922 := n4_; have BK888 := n5_; have BK889 := n6_; have BK896 := n7_; have BK903 := n8_; have HB := n9_; clear n0_ n1_ n2_ n3_ n4_ n5_ n6_ n7_ n8_ n9_; (try clear hb); (try clear hb2); (try clear hk); (try clear hi); (try clear ho0)) | ((with_reducible refine gate_dst (N := 16) rfl ?_); (try (refine gate_guard (by rfl) ?_; dsimp only)); refine box_event ?hg (N := 16) ?hd (cs := #[.int .i64 0, .int .i64 0, .slice none 0 0]) (t := 25) ?hr ?_; (case hd => rfl); (case hg => rfl); (case hr => first | (go_simp; done) | (go_simp; rfl)); intro gb924 hg w107 hbox hb; have n0_ := Aside0.mk (Kd.R_below (by (with_reducible repeat (first | apply Kd.R_alloc | apply Kd.R_drewN | apply Kd.R_drew)); exact HO_68.out) hb); have n1_ := Aside0.mk (Kd.Q_below (by (with_reducible repeat (first | apply Kd.Q_alloc | apply Kd.Q_drewN | apply Kd.Q_drew)); exact HO_889002.out) hb); have n2_ := Aside0.mk (Kd.Q_below (by (with_reducible repeat (first | apply Kd.Q_alloc | apply Kd.Q_drewN | apply Kd.Q_drew)); exact HO_897002.out) hb); have n3_ := Aside0.mk (Kd.Q_below (by (with_reducible repeat (first | apply Kd.Q_alloc | apply Kd.Q_drewN | apply Kd.Q_drew)); exact HO_904002.out) hb); have n4_ := Aside0.mk (Kd.R_below (by (with_reducible repeat (first | apply Kd.R_alloc | apply Kd.R_drewN | apply Kd.R_drew)); exact HO922.out) hb); have n5_ := Aside0.mk (blk_below (g := gb888) (o := .cells #[.int .i64 t874, .int .i64 t875, .slice Ao15 t876.length co15] 25 (0, 0)) (by (with_reducible repeat (first | refine blk_drewN ?_ _ | refine blk_drew ?_ | refine blk_alloc ?_ _)); exact BK888.out) hb); have n6_ := Aside0.mk (blk_below (g := gb889) (o := .cells #[.int .i64 t879, .int .i64 t880, .int .i64 t881, .int .i64 t882, .int .i64 t883, .int .i64 t884, .int .i64 t885, .int .i64 t886] 41 (0, 0)) (by (with_reducible repeat (first | refine blk_drewN ?_ _ | refine blk_drew ?_ | refine blk_alloc ?_ _)); exact BK889.out) hb); have n7_ := Aside0.mk (blk_below (g := gb896) (o := .cells #[.int .i64 t890, .int .i64 t891, .slice Ao22 t892.length co22] 25 (0, 0)) (by (with_reducible repeat (first | refine blk_drewN ?_ _ | refine blk_drew ?_ | refine blk_alloc ?_ _)); exact BK896.out) hb); have n8_ := Aside0.mk (blk_below (g := gb903) (o := .cells #[.int .i64 t897, .int .i64 t898, .slice Ao31 t899.length co31] 25 (0, 0)) (by (with_reducible repeat (first | refine blk_drewN ?_ _ | refine blk_drew ?_ | refine blk_alloc ?_ _)); exact BK903.out) hb); have n9_ := Aside0.mk (below_step (by repeat (first | (with_reducible first | exact HB.out | apply below_alloc | apply pw_below_drewN | apply below_drew1 | refine below_set ?_ GE888.out | refine below_set ?_ GE889.out | refine below_set ?_ GE896.out | refine below_set ?_ GE903.out) | exact HB.out)) hb); have n10_ := Aside0.mk (hbox); have n11_ := Aside0.mk ((by rw [hg]; exact (below_size (by repeat (first | (with_reducible first | exact HB.out | apply below_alloc | apply pw_below_drewN | apply below_drew1 | refine below_set ?_ GE888.out | refine below_set ?_ GE889.out | refine below_set ?_ GE896.out | refine below_set ?_ GE903.out) | exact HB.out))) : w.heap.size ≤ gb924)); have n12_ := Aside0.mk ((by rw [hg]; exact (below_size (by repeat (first | (with_reducible first | exact HB.out | apply below_alloc | apply pw_below_drewN | apply below_drew1 | refine below_set ?_ GE888.out | refine below_set ?_ GE889.out | refine below_set ?_ GE896.out | refine below_set ?_ GE903.out) | exact HB.out))) : w.heap.size ≤ gb924)); have n13_ := Aside0.mk ((by rw [hg]; exact Nat.ne_of_lt (blk_lt (g := gb888) (o := .cells #[.int .i64 t874, .int .i64 t875, .slice Ao15 t876.length co15] 25 (0, 0)) (by (with_reducible repeat (first | refine blk_drewN ?_ _ | refine blk_drew ?_ | refine blk_alloc ?_ _)); exact BK888.out)) : gb888 ≠ gb924)); have n14_ := Aside0.mk ((by rw [hg]; exact Nat.ne_of_gt (blk_lt (g := gb888) (o := .cells #[.int .i64 t874, .int .i64 t875, .slice Ao15 t876.length co15] 25 (0, 0)) (by (with_reducible repeat (first | refine blk_drewN ?_ _ | refine blk_drew ?_ | refine blk_alloc ?_ _)); exact BK888.out)) : gb924 ≠ gb888)); have n15_ := Aside0.mk ((by rw [hg]; exact Nat.ne_of_lt (blk_lt (g := gb889) (o := .cells #[.int .i64 t879, .int .i64 t880, .int .i64 t881, .int .i64 t882, .int .i64 t883, .int .i64 t884, .int .i64 t885, .int .i64 t886] 41 (0, 0)) (by (with_reducible repeat (first | refine blk_drewN ?_ _ | refine blk_drew ?_ | refine blk_alloc ?_ _)); exact BK889.out)) : gb889 ≠ gb924)); have n16_ := Aside0.mk ((by rw [hg]; exact Nat.ne_of_gt (blk_lt (g := gb889) (o := .cells #[.int .i64 t879, .int .i64 t880, .int .i64 t881, .int .i64 t882, .int .i64 t883, .int .i64 t884, .int .i64 t885, .int .i64 t886] 41 (0, 0)) (by (with_reducible repeat (first | refine blk_drewN ?_ _ | refine blk_drew ?_ | refine blk_alloc ?_ _)); exact BK889.out)) : gb924 ≠ gb889)); have n17_ := Aside0.mk ((by rw [hg]; exact Nat.ne_of_lt (blk_lt (g := gb896) (o := .cells #[.int .i64 t890, .int .i64 t891, .slice Ao22 t892.length co22] 25 (0, 0)) (by (with_reducible repeat (first | refine blk_drewN ?_ _ | refine blk_drew ?_ | refine blk_alloc ?_ _)); exact BK896.out)) : gb896 ≠ gb924)); have n18_ := Aside0.mk ((by rw [hg]; exact Nat.ne_of_gt (blk_lt (g := gb896) (o := .cells #[.int .i64 t890, .int .i64 t891, .slice Ao22 t892.length co22] 25 (0, 0)) (by (with_reducible repeat (first | refine blk_drewN ?_ _ | refine blk_drew ?_ | refine blk_alloc ?_ _)); exact BK896.out)) : gb924 ≠ gb896)); have n19_ := Aside0.mk ((by rw [hg]; exact Nat.ne_of_lt (blk_lt (g := gb903) (o := .cells #[.int .i64 t897, .int .i64 t898, .slice Ao31 t899.length co31] 25 (0, 0)) (by (with_reducible repeat (first | refine blk_drewN ?_ _ | refine blk_drew ?_ | refine blk_alloc ?_ _)); exact BK903.out)) : gb903 ≠ gb924)); have n20_ := Aside0.mk ((by rw [hg]; exact Nat.ne_of_gt (blk_lt (g := gb903) (o := .cells #[.int .i64 t897, .int .i64 t898, .slice Ao31 t899.length co31] 25 (0, 0)) (by (with_reducible repeat (first | refine blk_drewN ?_ _ | refine blk_drew ?_ | refine blk_alloc ?_ _)); exact BK903.out)) : gb924 ≠ gb903)); clear HO_68; clear HO_889002; clear HO_897002; clear HO_904002; clear HO922; clear BK888; clear BK889; clear BK896; clear BK903; clear HB; have HO_68 := n0_; have HO_889002 := n1_; have HO_897002 := n2_; have HO_904002 := n3_; have HO922 := n4_; have BK888 := n5_; have BK889 := n6_; have BK896 := n7_; have BK903 := n8_; have HB := n9_; have BK924 := n10_; have GW924 := n11_; have GE924 := n12_; have NB888_924 := n13_; have NB924_888 := n14_; have NB889_924 := n15_; have NB924_889 := n16_; have NB896_924 := n17_; have NB924_896 := n18_; have NB903_924 := n19_; have NB924_903 := n20_; clear n0_ n1_ n2_ n3_ n4_ n5_ n6_ n7_ n8_ n9_ n10_ n11_ n12_ n13_ n14_ n15_ n16_ n17_ n18_ n19_ n20_; clear hb hbox hg; have hnb108 := NB924_888.out; have hnc108 := NB888_924.out; have hnb109 := NB924_889.out; have hnc109 := NB889_924.out; have hnb110 := NB924_896.out; have hnc110 := NB896_924.out; have hnb111 := NB924_903.out; have hnc111 := NB903_924.out; have hcz112_0 : w107.cell? ⟨gb924, 0, none⟩ = some (.int .i64 0) := (blk_cell BK924.out 0).trans rfl; have hcz112_1 : w107.cell? ⟨gb924, 1, none⟩ = some (.int .i64 0) := (blk_cell BK924.out 1).trans rfl; have hcz112_2 : w107.cell? ⟨gb924, 2, none⟩ = some (.slice none 0 0) := (blk_cell BK924.out 2).trans rfl; have hfz112_0 := blk_frozen BK924.out 0; have hfz112_1 := blk_frozen BK924.out 1; have hfz112_2 := blk_frozen BK924.out 2; obtain ⟨Ao113, co113, eo113⟩ := Kd.R_slice HO922.out; subst eo113))
                    go_ret
                    exact ⟨by first | rfl | (simp [errW_none, errW_some] <;> rfl) | (simp [*, errW_none, errW_some] <;> rfl), by repeat (first | (with_reducible first | exact HB.out | apply below_alloc | apply pw_below_drewN | apply below_drew1 | refine below_set ?_ GE888.out | refine below_set ?_ GE889.out | refine below_set ?_ GE896.out | refine below_set ?_ GE903.out | refine below_set ?_ GE924.out) | exact HB.out)⟩

/-- THE ONE PURE STATEMENT of laws_FnRecKinds: yours. -/
def laws_FnRecKinds.Pure : Prop := ∀ (l0 : List Int) (l1 : List Int), l0.length ≤ maxLen → l0.length * 1 ≤ 140737488351232 → (∀ x ∈ l0, (Lit.int .u8 x).wf = true) → l1.length ≤ maxLen → l1.length * 1 ≤ 140737488351232 → (∀ x ∈ l1, (Lit.int .u8 x).wf = true) → ∃ k, laws_FnRecKinds.f k l0 l1 = some true
theorem laws_FnRecKinds.walk (P : laws_FnRecKinds.Pure) (a0 : Option Addr) (len0 cap0 : Nat) (z0 : List Int) (a1 : Option Addr) (len1 cap1 : Nat) (z1 : List Int) (w : World) (w0 : (a0 = none ∧ len0 = 0 ∧ cap0 = 0 ∧ z0 = []) ∨ ∃ x, a0 = some x ∧ len0 ≤ cap0 ∧ cap0 ≤ maxLen ∧ z0.length = cap0 ∧ (∀ i, i < z0.length → w.cell? (x.add i) = some (.int .u8 (z0.getD i 0))) ∧ ∀ n ∈ z0, (Lit.int .u8 n).wf = true) (y0 : len0 * 1 ≤ 140737488351232) (w1 : (a1 = none ∧ len1 = 0 ∧ cap1 = 0 ∧ z1 = []) ∨ ∃ x, a1 = some x ∧ len1 ≤ cap1 ∧ cap1 ≤ maxLen ∧ z1.length = cap1 ∧ (∀ i, i < z1.length → w.cell? (x.add i) = some (.int .u8 (z1.getD i 0))) ∧ ∀ n ∈ z1, (Lit.int .u8 n).wf = true) (y1 : len1 * 1 ≤ 140737488351232) :
    Calls Try.prog 10 #[.slice a0 len0 cap0, .slice a1 len1 cap1] w fun e w' => e = .returned (.bool true) ∧ Below w.heap.size w w' := by
  obtain ⟨l0, rfl, hr0, hm0, hw0, hc0⟩ := ReadsInt.ofRowC w0
  obtain ⟨l1, rfl, hr1, hm1, hw1, hc1⟩ := ReadsInt.ofRowC w1
  obtain ⟨k, h⟩ := P l0 l1 hm0 y0 hw0 hm1 y1 hw1
  refine (laws_FnRecKinds.calls k _ _ l0 _ _ l1 true w (Kd.C_of_reads (d := (0 : Int)) (h1 := fun _ => rfl) hr0) hc0 (Kd.C_of_reads (d := (0 : Int)) (h1 := fun _ => rfl) hr1) hc1 h).mono ?_
  rintro e w' ⟨rfl, hd⟩
  exact ⟨rfl, hd⟩


end Go.Proofs.Ytcefiblpnegepaa.Pr
