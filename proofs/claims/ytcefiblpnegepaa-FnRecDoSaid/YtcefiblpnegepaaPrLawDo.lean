-- Laid by a program (extract.py) out of this seat's translation: contracts of a few functions, a text a function; Lean checks them.
import Derived.Test.YtcefiblpnegepaaPrK
import Derived.Test.YtcefiblpnegepaaPrSRD
import Derived.Test.YtcefiblpnegepaaPrIRD
import Derived.Test.YtcefiblpnegepaaPrDRD
namespace Go.Proofs.Ytcefiblpnegepaa.Pr
open Go.RowKit Go.Proofs.YtcefiblpnegepaaW.PrintWords Go.Proofs.YtcefiblpnegepaaW.PrintLast Go.Proofs.YtcefiblpnegepaaW.PrintMore
attribute [local go_sem] max2_int min2_int max_two min_two max_three min_three max_four min_four
set_option linter.unusedVariables false
set_option linter.unusedSimpArgs false
/-! ### laws_FnRecDo: function 14 -/
mutual
def laws_FnRecDo.j0 : Nat → Int → Bool → Bool → Bool → Int → Int → List Int → Int → Int → Int → Int → Int → Int → Int → Int → Int → Int → List Int → Int → Int → List Int → Option (Bool)
  | 0, _, _, _, _, _, _, _, _, _, _, _, _, _, _, _, _, _, _, _, _, _ => none
  | k + 1, x5, x7, x9, x46, x1091000, x1091001, x1091002, x1092000, x1092001, x1092002, x1092003, x1092004, x1092005, x1092006, x1092007, x1099000, x1099001, x1099002, x1106000, x1106001, x1106002 => if x46 = true then (if (x9 == x7) = true then ((laws_ltPage.f k x1106000 x1106001 x1106002 x1099000 x1099001 x1099002).bind fun t1107 => (some t1107)) else (some false)) else (if x1106000 = x5 then (if x5 ≤ x1091000 then (laws_FnRecDo.j1 k true x1091000 x1091001 x1091002 x1092000 x1092001 x1092002 x1092003 x1092004 x1092005 x1092006 x1092007 x1106000 x1106001 x1106002) else ((impl_PageOk.f k x1106000 x1106001 x1106002).bind fun t1108 => (laws_FnRecDo.j1 k (!t1108) x1091000 x1091001 x1091002 x1092000 x1092001 x1092002 x1092003 x1092004 x1092005 x1092006 x1092007 x1106000 x1106001 x1106002))) else (laws_FnRecDo.j1 k true x1091000 x1091001 x1091002 x1092000 x1092001 x1092002 x1092003 x1092004 x1092005 x1092006 x1092007 x1106000 x1106001 x1106002))
def laws_FnRecDo.j1 : Nat → Bool → Int → Int → List Int → Int → Int → Int → Int → Int → Int → Int → Int → Int → Int → List Int → Option (Bool)
  | 0, _, _, _, _, _, _, _, _, _, _, _, _, _, _, _ => none
  | k + 1, x69, x1091000, x1091001, x1091002, x1092000, x1092001, x1092002, x1092003, x1092004, x1092005, x1092006, x1092007, x1106000, x1106001, x1106002 => if x69 = true then (some false) else (if x1092003 < 0 then (if x1106001 = x1092005 then (if x1092005 = 0 then ((impl_PageEmpty.f k x1106000 x1106001 x1106002).bind fun t1109 => (if t1109 = true then (some true) else (if x1092005 > 0 then ((laws_ltInts.f k x1106002 x1091002).bind fun t1110 => (some t1110)) else (some false)))) else (if x1092005 > 0 then ((laws_ltInts.f k x1106002 x1091002).bind fun t1111 => (some t1111)) else (some false))) else (some false)) else ((some (([] : List Int) : List Int)).bind fun y1113 => (if y1113.length + x1106002.length < 17592186044416 then ((some (y1113 ++ x1106002 : List Int)).bind fun y1116 => (if 0 ≤ x1092003 then (if x1092003 < (x1091002.length : Int) then (if x1092003 < (y1116.length : Int) then (if x1092003 < (x1106002.length : Int) then (if (rd x1106002 x1092003) = x1092005 then ((laws_ltHas.f k x1106000 x1106001 (y1116.set (x1092003 : Int).toNat (rd x1091002 x1092003)) x1091000 x1091001 x1091002).bind fun t1122 => (some t1122)) else (some false)) else (none)) else (none)) else (none)) else (none))) else (none))))
end
def laws_FnRecDo.f (k : Nat) (l0 : List Int) : Option (Bool) := if (l0.length : Int) > 1048576 then (some true) else ((spec_DrawRecDo.f k l0).bind fun bt1076 => ((spec_RecDo.f k bt1076.1 bt1076.2.1 bt1076.2.2.1 bt1076.2.2.2.1 bt1076.2.2.2.2.1 bt1076.2.2.2.2.2.1 bt1076.2.2.2.2.2.2.1 bt1076.2.2.2.2.2.2.2.1 bt1076.2.2.2.2.2.2.2.2.1 bt1076.2.2.2.2.2.2.2.2.2.1 bt1076.2.2.2.2.2.2.2.2.2.2.1 bt1076.2.2.2.2.2.2.2.2.2.2.2).bind fun bt1092 => ((impl_RecDo.f k bt1076.1 bt1076.2.1 bt1076.2.2.1 bt1076.2.2.2.1 bt1076.2.2.2.2.1 bt1076.2.2.2.2.2.1 bt1076.2.2.2.2.2.2.1 bt1076.2.2.2.2.2.2.2.1 bt1076.2.2.2.2.2.2.2.2.1 bt1076.2.2.2.2.2.2.2.2.2.1 bt1076.2.2.2.2.2.2.2.2.2.2.1 bt1076.2.2.2.2.2.2.2.2.2.2.2).bind fun bt1099 => (if (bt1099.2.2.2 != bt1092.2.2.2) = true then (laws_FnRecDo.j0 k bt1076.2.2.2.2.2.2.2.2.2.2.2 bt1092.2.2.2 bt1099.2.2.2 true bt1076.1 bt1076.2.1 bt1076.2.2.1 bt1076.2.2.2.1 bt1076.2.2.2.2.1 bt1076.2.2.2.2.2.1 bt1076.2.2.2.2.2.2.1 bt1076.2.2.2.2.2.2.2.1 bt1076.2.2.2.2.2.2.2.2.1 bt1076.2.2.2.2.2.2.2.2.2.1 bt1076.2.2.2.2.2.2.2.2.2.2.1 bt1092.1 bt1092.2.1 bt1092.2.2.1 bt1099.1 bt1099.2.1 bt1099.2.2.1) else ((laws_ltPage.f k bt1099.1 bt1099.2.1 bt1099.2.2.1 bt1092.1 bt1092.2.1 bt1092.2.2.1).bind fun t1106 => (if t1106 = true then (laws_FnRecDo.j0 k bt1076.2.2.2.2.2.2.2.2.2.2.2 bt1092.2.2.2 bt1099.2.2.2 (!bt1099.2.2.2) bt1076.1 bt1076.2.1 bt1076.2.2.1 bt1076.2.2.2.1 bt1076.2.2.2.2.1 bt1076.2.2.2.2.2.1 bt1076.2.2.2.2.2.2.1 bt1076.2.2.2.2.2.2.2.1 bt1076.2.2.2.2.2.2.2.2.1 bt1076.2.2.2.2.2.2.2.2.2.1 bt1076.2.2.2.2.2.2.2.2.2.2.1 bt1092.1 bt1092.2.1 bt1092.2.2.1 bt1099.1 bt1099.2.1 bt1099.2.2.1) else (laws_FnRecDo.j0 k bt1076.2.2.2.2.2.2.2.2.2.2.2 bt1092.2.2.2 bt1099.2.2.2 true bt1076.1 bt1076.2.1 bt1076.2.2.1 bt1076.2.2.2.1 bt1076.2.2.2.2.1 bt1076.2.2.2.2.2.1 bt1076.2.2.2.2.2.2.1 bt1076.2.2.2.2.2.2.2.1 bt1076.2.2.2.2.2.2.2.2.1 bt1076.2.2.2.2.2.2.2.2.2.1 bt1076.2.2.2.2.2.2.2.2.2.2.1 bt1092.1 bt1092.2.1 bt1092.2.2.1 bt1099.1 bt1099.2.1 bt1099.2.2.1)))))))
theorem laws_FnRecDo.mono_l : ∀ k, (∀ y0 y1 y2 y3 y4 y5 y6 y7 y8 y9 y10 y11 y12 y13 y14 y15 y16 y17 y18 y19 y20, LeO (laws_FnRecDo.j0 k y0 y1 y2 y3 y4 y5 y6 y7 y8 y9 y10 y11 y12 y13 y14 y15 y16 y17 y18 y19 y20) (laws_FnRecDo.j0 (k + 1) y0 y1 y2 y3 y4 y5 y6 y7 y8 y9 y10 y11 y12 y13 y14 y15 y16 y17 y18 y19 y20)) ∧ (∀ y0 y1 y2 y3 y4 y5 y6 y7 y8 y9 y10 y11 y12 y13 y14, LeO (laws_FnRecDo.j1 k y0 y1 y2 y3 y4 y5 y6 y7 y8 y9 y10 y11 y12 y13 y14) (laws_FnRecDo.j1 (k + 1) y0 y1 y2 y3 y4 y5 y6 y7 y8 y9 y10 y11 y12 y13 y14))
  | 0 => ⟨fun _ _ _ _ _ _ _ _ _ _ _ _ _ _ _ _ _ _ _ _ _ r h => by simp [laws_FnRecDo.j0] at h, fun _ _ _ _ _ _ _ _ _ _ _ _ _ _ _ r h => by simp [laws_FnRecDo.j1] at h⟩
  | k + 1 => by
    obtain ⟨ih0, ih1⟩ := laws_FnRecDo.mono_l k
    refine ⟨?_, ?_⟩
    · intro y0 y1 y2 y3 y4 y5 y6 y7 y8 y9 y10 y11 y12 y13 y14 y15 y16 y17 y18 y19 y20
      unfold laws_FnRecDo.j0
      repeat' first
      | (with_reducible exact ih0 _ _ _ _ _ _ _ _ _ _ _ _ _ _ _ _ _ _ _ _ _)
      | (with_reducible exact ih1 _ _ _ _ _ _ _ _ _ _ _ _ _ _ _)
      | (with_reducible exact impl_PageEmpty.mono _ _ _ _)
      | (with_reducible exact impl_PageOk.mono _ _ _ _)
      | (with_reducible exact impl_RecDo.mono _ _ _ _ _ _ _ _ _ _ _ _ _)
      | (with_reducible exact laws_ltHas.mono _ _ _ _ _ _ _)
      | (with_reducible exact laws_ltInts.mono _ _ _)
      | (with_reducible exact laws_ltPage.mono _ _ _ _ _ _ _)
      | (with_reducible exact spec_DrawRecDo.mono _ _)
      | (with_reducible exact spec_RecDo.mono _ _ _ _ _ _ _ _ _ _ _ _ _)
      | (with_reducible exact LeO.refl _)
      | (with_reducible exact LeO.none _)
      | (with_reducible refine LeO.ite ?_ ?_)
      | (with_reducible refine LeO.bind ?_ (fun _ => ?_))
      | exact ih0 _ _ _ _ _ _ _ _ _ _ _ _ _ _ _ _ _ _ _ _ _
      | exact ih1 _ _ _ _ _ _ _ _ _ _ _ _ _ _ _
      | exact impl_PageEmpty.mono _ _ _ _
      | exact impl_PageOk.mono _ _ _ _
      | exact impl_RecDo.mono _ _ _ _ _ _ _ _ _ _ _ _ _
      | exact laws_ltHas.mono _ _ _ _ _ _ _
      | exact laws_ltInts.mono _ _ _
      | exact laws_ltPage.mono _ _ _ _ _ _ _
      | exact spec_DrawRecDo.mono _ _
      | exact spec_RecDo.mono _ _ _ _ _ _ _ _ _ _ _ _ _
      | exact LeO.none _
      | refine LeO.ite ?_ ?_
      | refine LeO.bind ?_ (fun _ => ?_)
    · intro y0 y1 y2 y3 y4 y5 y6 y7 y8 y9 y10 y11 y12 y13 y14
      unfold laws_FnRecDo.j1
      repeat' first
      | (with_reducible exact ih0 _ _ _ _ _ _ _ _ _ _ _ _ _ _ _ _ _ _ _ _ _)
      | (with_reducible exact ih1 _ _ _ _ _ _ _ _ _ _ _ _ _ _ _)
      | (with_reducible exact impl_PageEmpty.mono _ _ _ _)
      | (with_reducible exact impl_PageOk.mono _ _ _ _)
      | (with_reducible exact impl_RecDo.mono _ _ _ _ _ _ _ _ _ _ _ _ _)
      | (with_reducible exact laws_ltHas.mono _ _ _ _ _ _ _)
      | (with_reducible exact laws_ltInts.mono _ _ _)
      | (with_reducible exact laws_ltPage.mono _ _ _ _ _ _ _)
      | (with_reducible exact spec_DrawRecDo.mono _ _)
      | (with_reducible exact spec_RecDo.mono _ _ _ _ _ _ _ _ _ _ _ _ _)
      | (with_reducible exact LeO.refl _)
      | (with_reducible exact LeO.none _)
      | (with_reducible refine LeO.ite ?_ ?_)
      | (with_reducible refine LeO.bind ?_ (fun _ => ?_))
      | exact ih0 _ _ _ _ _ _ _ _ _ _ _ _ _ _ _ _ _ _ _ _ _
      | exact ih1 _ _ _ _ _ _ _ _ _ _ _ _ _ _ _
      | exact impl_PageEmpty.mono _ _ _ _
      | exact impl_PageOk.mono _ _ _ _
      | exact impl_RecDo.mono _ _ _ _ _ _ _ _ _ _ _ _ _
      | exact laws_ltHas.mono _ _ _ _ _ _ _
      | exact laws_ltInts.mono _ _ _
      | exact laws_ltPage.mono _ _ _ _ _ _ _
      | exact spec_DrawRecDo.mono _ _
      | exact spec_RecDo.mono _ _ _ _ _ _ _ _ _ _ _ _ _
      | exact LeO.none _
      | refine LeO.ite ?_ ?_
      | refine LeO.bind ?_ (fun _ => ?_)
theorem laws_FnRecDo.mono : ∀ a0 k, LeO (laws_FnRecDo.f k a0) (laws_FnRecDo.f (k + 1) a0) := by
  intro a0 k
  obtain ⟨ih0, ih1⟩ := laws_FnRecDo.mono_l k
  unfold laws_FnRecDo.f
  repeat' first
      | (with_reducible exact ih0 _ _ _ _ _ _ _ _ _ _ _ _ _ _ _ _ _ _ _ _ _)
      | (with_reducible exact ih1 _ _ _ _ _ _ _ _ _ _ _ _ _ _ _)
      | (with_reducible exact impl_PageEmpty.mono _ _ _ _)
      | (with_reducible exact impl_PageOk.mono _ _ _ _)
      | (with_reducible exact impl_RecDo.mono _ _ _ _ _ _ _ _ _ _ _ _ _)
      | (with_reducible exact laws_ltHas.mono _ _ _ _ _ _ _)
      | (with_reducible exact laws_ltInts.mono _ _ _)
      | (with_reducible exact laws_ltPage.mono _ _ _ _ _ _ _)
      | (with_reducible exact spec_DrawRecDo.mono _ _)
      | (with_reducible exact spec_RecDo.mono _ _ _ _ _ _ _ _ _ _ _ _ _)
      | (with_reducible exact LeO.refl _)
      | (with_reducible exact LeO.none _)
      | (with_reducible refine LeO.ite ?_ ?_)
      | (with_reducible refine LeO.bind ?_ (fun _ => ?_))
      | exact ih0 _ _ _ _ _ _ _ _ _ _ _ _ _ _ _ _ _ _ _ _ _
      | exact ih1 _ _ _ _ _ _ _ _ _ _ _ _ _ _ _
      | exact impl_PageEmpty.mono _ _ _ _
      | exact impl_PageOk.mono _ _ _ _
      | exact impl_RecDo.mono _ _ _ _ _ _ _ _ _ _ _ _ _
      | exact laws_ltHas.mono _ _ _ _ _ _ _
      | exact laws_ltInts.mono _ _ _
      | exact laws_ltPage.mono _ _ _ _ _ _ _
      | exact spec_DrawRecDo.mono _ _
      | exact spec_RecDo.mono _ _ _ _ _ _ _ _ _ _ _ _ _
      | exact LeO.none _
      | refine LeO.ite ?_ ?_
      | refine LeO.bind ?_ (fun _ => ?_)
def laws_FnRecDo.T14 : Bool × List (List Nat × List Nat) := (true, [([], []), ([0], [0]), ([], []), ([2], [2]), ([], []), ([4], [4]), ([], []), ([6], [6]), ([5, 7], [5, 7]), ([8], [8]), ([1, 3, 0, 1, 2, 3, 4, 5, 6, 7, 8, 9], [1, 3]), ([10, 9, 0, 1, 2, 3, 4, 5, 6, 7, 8, 9], [9, 10])])
def laws_FnRecDo.B14 : List Nat := [0, 1, 0, 4, 0, 16, 0, 64, 240, 496, 1023, 2047]
theorem laws_FnRecDo.tab14 : rtab .any (opsOf Try.f14 14) = laws_FnRecDo.T14 := by kernel_rfl
theorem laws_FnRecDo.bits14 : waitsOk laws_FnRecDo.T14.2 laws_FnRecDo.B14 = true := by kernel_rfl
def laws_FnRecDo.T15 : Bool × List (List Nat × List Nat) := (true, [([], []), ([0], [0]), ([], []), ([2], [2]), ([1, 3], [1, 3]), ([4], [4]), ([], []), ([6], [6]), ([5, 7], [5, 7]), ([8], [8]), ([9], [9]), ([9], [9]), ([10, 11, 9, 9], [9, 10, 11]), ([9, 12], [9, 12]), ([13, 12, 0, 1, 2, 3, 4, 5, 6, 7, 8, 9, 10, 11, 12, 13], [13])])
def laws_FnRecDo.B15 : List Nat := [0, 1, 0, 4, 15, 31, 0, 64, 255, 511, 1023, 1023, 4095, 8191, 16383]
theorem laws_FnRecDo.tab15 : rtab .any (opsOf Try.f14 15) = laws_FnRecDo.T15 := by kernel_rfl
theorem laws_FnRecDo.bits15 : waitsOk laws_FnRecDo.T15.2 laws_FnRecDo.B15 = true := by kernel_rfl
set_option maxHeartbeats 8000000 in
set_option maxRecDepth 100000 in
theorem laws_FnRecDo.calls (k : Nat) (A0 : Option Addr) (c0 : Nat) (l0 : List Int) (r : Bool) (w : World) (hr0 : Kd.C (Kd.int .u8) w A0 l0.length l0) (hc0 : l0.length ≤ c0) (h : laws_FnRecDo.f k l0 = some r) (hT_ : Aside0 (r = true)) :
    Calls Try.prog 14 #[.slice A0 l0.length c0] w fun e w' => e = .returned (.bool r) ∧ Below w.heap.size w w' := by
  have hu25 := Try.underlying25
  have hu41 := Try.underlying41
  have HR0 := Aside0.mk hr0
  have HC0 := Aside0.mk hc0
  clear hr0 hc0
  have HB := Aside0.mk (Below.refl w.heap.size w)
  have H : (if (l0.length : Int) > 1048576 then (some true) else ((spec_DrawRecDo.f k l0).bind fun bt1076 => ((spec_RecDo.f k bt1076.1 bt1076.2.1 bt1076.2.2.1 bt1076.2.2.2.1 bt1076.2.2.2.2.1 bt1076.2.2.2.2.2.1 bt1076.2.2.2.2.2.2.1 bt1076.2.2.2.2.2.2.2.1 bt1076.2.2.2.2.2.2.2.2.1 bt1076.2.2.2.2.2.2.2.2.2.1 bt1076.2.2.2.2.2.2.2.2.2.2.1 bt1076.2.2.2.2.2.2.2.2.2.2.2).bind fun bt1092 => ((impl_RecDo.f k bt1076.1 bt1076.2.1 bt1076.2.2.1 bt1076.2.2.2.1 bt1076.2.2.2.2.1 bt1076.2.2.2.2.2.1 bt1076.2.2.2.2.2.2.1 bt1076.2.2.2.2.2.2.2.1 bt1076.2.2.2.2.2.2.2.2.1 bt1076.2.2.2.2.2.2.2.2.2.1 bt1076.2.2.2.2.2.2.2.2.2.2.1 bt1076.2.2.2.2.2.2.2.2.2.2.2).bind fun bt1099 => (if (bt1099.2.2.2 != bt1092.2.2.2) = true then (laws_FnRecDo.j0 k bt1076.2.2.2.2.2.2.2.2.2.2.2 bt1092.2.2.2 bt1099.2.2.2 true bt1076.1 bt1076.2.1 bt1076.2.2.1 bt1076.2.2.2.1 bt1076.2.2.2.2.1 bt1076.2.2.2.2.2.1 bt1076.2.2.2.2.2.2.1 bt1076.2.2.2.2.2.2.2.1 bt1076.2.2.2.2.2.2.2.2.1 bt1076.2.2.2.2.2.2.2.2.2.1 bt1076.2.2.2.2.2.2.2.2.2.2.1 bt1092.1 bt1092.2.1 bt1092.2.2.1 bt1099.1 bt1099.2.1 bt1099.2.2.1) else ((laws_ltPage.f k bt1099.1 bt1099.2.1 bt1099.2.2.1 bt1092.1 bt1092.2.1 bt1092.2.2.1).bind fun t1106 => (if t1106 = true then (laws_FnRecDo.j0 k bt1076.2.2.2.2.2.2.2.2.2.2.2 bt1092.2.2.2 bt1099.2.2.2 (!bt1099.2.2.2) bt1076.1 bt1076.2.1 bt1076.2.2.1 bt1076.2.2.2.1 bt1076.2.2.2.2.1 bt1076.2.2.2.2.2.1 bt1076.2.2.2.2.2.2.1 bt1076.2.2.2.2.2.2.2.1 bt1076.2.2.2.2.2.2.2.2.1 bt1076.2.2.2.2.2.2.2.2.2.1 bt1076.2.2.2.2.2.2.2.2.2.2.1 bt1092.1 bt1092.2.1 bt1092.2.2.1 bt1099.1 bt1099.2.1 bt1099.2.2.1) else (laws_FnRecDo.j0 k bt1076.2.2.2.2.2.2.2.2.2.2.2 bt1092.2.2.2 bt1099.2.2.2 true bt1076.1 bt1076.2.1 bt1076.2.2.1 bt1076.2.2.2.1 bt1076.2.2.2.2.1 bt1076.2.2.2.2.2.1 bt1076.2.2.2.2.2.2.1 bt1076.2.2.2.2.2.2.2.1 bt1076.2.2.2.2.2.2.2.2.1 bt1076.2.2.2.2.2.2.2.2.2.1 bt1076.2.2.2.2.2.2.2.2.2.2.1 bt1092.1 bt1092.2.1 bt1092.2.2.1 bt1099.1 bt1099.2.1 bt1099.2.2.1)))))))) = some r := h
  clear h
  by_cases c2 : (l0.length : Int) > 1048576
  · rw [if_pos c2] at H
    have c2b0 : decide (1048576 < (l0.length : Int)) = true := decide_eq_true c2
    have c2b1 : decide (1048576 < l0.length) = true := decide_eq_true (by omega)
    clear c2
    obtain rfl := Option.some.inj H
    go_enter Try.func14, Try.ntmps14
    go_wp2
    go_ret
    exact ⟨by first | rfl | (simp [errW_none, errW_some] <;> rfl) | (simp [*, errW_none, errW_some] <;> rfl), by repeat (first | (with_reducible first | exact HB.out | apply below_alloc | apply pw_below_drewN | apply below_drew1) | exact HB.out)⟩
  · rw [if_neg c2] at H
    have c2b0 : decide (1048576 < (l0.length : Int)) = false := decide_eq_false c2
    have c2b1 : decide (1048576 < l0.length) = false := decide_eq_false (by omega)
    clear c2
    replace H := Option.bind_eq_some_iff.mp H
    obtain ⟨⟨t1076, t1077, t1078, t1081, t1082, t1083, t1084, t1085, t1086, t1087, t1088, t1089⟩, A30, H⟩ := H
    replace H : ((spec_RecDo.f k t1076 t1077 t1078 t1081 t1082 t1083 t1084 t1085 t1086 t1087 t1088 t1089).bind fun bt1092 => ((impl_RecDo.f k t1076 t1077 t1078 t1081 t1082 t1083 t1084 t1085 t1086 t1087 t1088 t1089).bind fun bt1099 => (if (bt1099.2.2.2 != bt1092.2.2.2) = true then (laws_FnRecDo.j0 k t1089 bt1092.2.2.2 bt1099.2.2.2 true t1076 t1077 t1078 t1081 t1082 t1083 t1084 t1085 t1086 t1087 t1088 bt1092.1 bt1092.2.1 bt1092.2.2.1 bt1099.1 bt1099.2.1 bt1099.2.2.1) else ((laws_ltPage.f k bt1099.1 bt1099.2.1 bt1099.2.2.1 bt1092.1 bt1092.2.1 bt1092.2.2.1).bind fun t1106 => (if t1106 = true then (laws_FnRecDo.j0 k t1089 bt1092.2.2.2 bt1099.2.2.2 (!bt1099.2.2.2) t1076 t1077 t1078 t1081 t1082 t1083 t1084 t1085 t1086 t1087 t1088 bt1092.1 bt1092.2.1 bt1092.2.2.1 bt1099.1 bt1099.2.1 bt1099.2.2.1) else (laws_FnRecDo.j0 k t1089 bt1092.2.2.2 bt1099.2.2.2 true t1076 t1077 t1078 t1081 t1082 t1083 t1084 t1085 t1086 t1087 t1088 bt1092.1 bt1092.2.1 bt1092.2.2.1 bt1099.1 bt1099.2.1 bt1099.2.2.1)))))) = some r := H
    have A3 := Aside0.mk A30
    clear A30
    replace H := Option.bind_eq_some_iff.mp H
    obtain ⟨⟨t1092, t1093, t1094, t1097⟩, A40, H⟩ := H
    replace H : ((impl_RecDo.f k t1076 t1077 t1078 t1081 t1082 t1083 t1084 t1085 t1086 t1087 t1088 t1089).bind fun bt1099 => (if (bt1099.2.2.2 != t1097) = true then (laws_FnRecDo.j0 k t1089 t1097 bt1099.2.2.2 true t1076 t1077 t1078 t1081 t1082 t1083 t1084 t1085 t1086 t1087 t1088 t1092 t1093 t1094 bt1099.1 bt1099.2.1 bt1099.2.2.1) else ((laws_ltPage.f k bt1099.1 bt1099.2.1 bt1099.2.2.1 t1092 t1093 t1094).bind fun t1106 => (if t1106 = true then (laws_FnRecDo.j0 k t1089 t1097 bt1099.2.2.2 (!bt1099.2.2.2) t1076 t1077 t1078 t1081 t1082 t1083 t1084 t1085 t1086 t1087 t1088 t1092 t1093 t1094 bt1099.1 bt1099.2.1 bt1099.2.2.1) else (laws_FnRecDo.j0 k t1089 t1097 bt1099.2.2.2 true t1076 t1077 t1078 t1081 t1082 t1083 t1084 t1085 t1086 t1087 t1088 t1092 t1093 t1094 bt1099.1 bt1099.2.1 bt1099.2.2.1))))) = some r := H
    have A4 := Aside0.mk A40
    clear A40
    replace H := Option.bind_eq_some_iff.mp H
    obtain ⟨⟨t1099, t1100, t1101, t1104⟩, A50, H⟩ := H
    replace H : (if (t1104 != t1097) = true then (laws_FnRecDo.j0 k t1089 t1097 t1104 true t1076 t1077 t1078 t1081 t1082 t1083 t1084 t1085 t1086 t1087 t1088 t1092 t1093 t1094 t1099 t1100 t1101) else ((laws_ltPage.f k t1099 t1100 t1101 t1092 t1093 t1094).bind fun t1106 => (if t1106 = true then (laws_FnRecDo.j0 k t1089 t1097 t1104 (!t1104) t1076 t1077 t1078 t1081 t1082 t1083 t1084 t1085 t1086 t1087 t1088 t1092 t1093 t1094 t1099 t1100 t1101) else (laws_FnRecDo.j0 k t1089 t1097 t1104 true t1076 t1077 t1078 t1081 t1082 t1083 t1084 t1085 t1086 t1087 t1088 t1092 t1093 t1094 t1099 t1100 t1101)))) = some r := H
    have A5 := Aside0.mk A50
    clear A50
    have HC6 := Aside0.mk H
    clear H
    go_enter Try.func14, Try.ntmps14
    go_upto_region 6 with (first | ((with_reducible refine gate_callee (f := 56) rfl ?_); refine goesL_ (some 16) rfl rfl Try.func56 (by kernel_rfl) rfl #[.slice A0 l0.length c0] rfl (by (try simp only [List.map_toArray, List.map_cons, List.map_nil]); first | done | rfl | (simp only [List.length_drop, List.length_take]; rfl)) ?_; (with_reducible refine (spec_DrawRecDo.calls k _ _ l0 t1076 t1077 t1078 t1081 t1082 t1083 t1084 t1085 t1086 t1087 t1088 t1089 _ ?side1 ?side2 A3.out).mono ?_); (case side1 => repeat (first | exact HR0.out | (with_reducible refine Kd.C_alloc ?_ _) | (with_reducible refine Kd.C_drewN ?_ _) | (with_reducible refine Kd.C_drew ?_))); (case side2 => exact HC0.out); rintro e w7 ⟨v1079, rfl, ho0, hb⟩; refine ⟨_, rfl, ?_⟩; have n0_ := Aside0.mk (Kd.Q_lower ho0 (below_size (by repeat (first | (with_reducible first | exact HB.out | apply below_alloc | apply pw_below_drewN | apply below_drew1) | exact HB.out)))); have n1_ := Aside0.mk (below_step (by repeat (first | (with_reducible first | exact HB.out | apply below_alloc | apply pw_below_drewN | apply below_drew1) | exact HB.out)) hb); clear HB; have HO1080 := n0_; have HB := n1_; clear n0_ n1_; (try clear hb); (try clear hb2); (try clear hk); (try clear hi); (try clear ho0)) | ((with_reducible refine gate_dst (N := 3) rfl ?_); refine box_event ?hg (N := 3) ?hd (cs := #[.int .i64 0, .int .i64 0, .slice none 0 0]) (t := 25) ?hr ?_; (case hd => rfl); (case hg => rfl); (case hr => first | (go_simp; done) | (go_simp; rfl)); intro gb1090 hg w8 hbox hb; have n0_ := Aside0.mk (Kd.Q_below (by (with_reducible repeat (first | apply Kd.Q_alloc | apply Kd.Q_drewN | apply Kd.Q_drew)); exact HO1080.out) hb); have n1_ := Aside0.mk (below_step (by repeat (first | (with_reducible first | exact HB.out | apply below_alloc | apply pw_below_drewN | apply below_drew1) | exact HB.out)) hb); have n2_ := Aside0.mk (hbox); have n3_ := Aside0.mk ((by rw [hg]; exact (below_size (by repeat (first | (with_reducible first | exact HB.out | apply below_alloc | apply pw_below_drewN | apply below_drew1) | exact HB.out))) : w.heap.size ≤ gb1090)); have n4_ := Aside0.mk ((by rw [hg]; exact (below_size (by repeat (first | (with_reducible first | exact HB.out | apply below_alloc | apply pw_below_drewN | apply below_drew1) | exact HB.out))) : w.heap.size ≤ gb1090)); clear HO1080; clear HB; have HO1080 := n0_; have HB := n1_; have BK1090 := n2_; have GW1090 := n3_; have GE1090 := n4_; clear n0_ n1_ n2_ n3_ n4_; clear hb hbox hg) | ((with_reducible refine gate_dst (N := 4) rfl ?_); refine box_event ?hg (N := 4) ?hd (cs := #[.int .i64 0, .int .i64 0, .int .i64 0, .int .i64 0, .int .i64 0, .int .i64 0, .int .i64 0, .int .i64 0]) (t := 41) ?hr ?_; (case hd => rfl); (case hg => rfl); (case hr => first | (go_simp; done) | (go_simp; rfl)); intro gb1091 hg w9 hbox hb; have n0_ := Aside0.mk (Kd.Q_below (by (with_reducible repeat (first | apply Kd.Q_alloc | apply Kd.Q_drewN | apply Kd.Q_drew)); exact HO1080.out) hb); have n1_ := Aside0.mk (blk_below (g := gb1090) (o := .cells #[.int .i64 0, .int .i64 0, .slice none 0 0] 25 (0, 0)) (by (with_reducible repeat (first | refine blk_drewN ?_ _ | refine blk_drew ?_ | refine blk_alloc ?_ _)); exact BK1090.out) hb); have n2_ := Aside0.mk (below_step (by repeat (first | (with_reducible first | exact HB.out | apply below_alloc | apply pw_below_drewN | apply below_drew1 | refine below_set ?_ GE1090.out) | exact HB.out)) hb); have n3_ := Aside0.mk (hbox); have n4_ := Aside0.mk ((by rw [hg]; exact (below_size (by repeat (first | (with_reducible first | exact HB.out | apply below_alloc | apply pw_below_drewN | apply below_drew1 | refine below_set ?_ GE1090.out) | exact HB.out))) : w.heap.size ≤ gb1091)); have n5_ := Aside0.mk ((by rw [hg]; exact (below_size (by repeat (first | (with_reducible first | exact HB.out | apply below_alloc | apply pw_below_drewN | apply below_drew1 | refine below_set ?_ GE1090.out) | exact HB.out))) : w.heap.size ≤ gb1091)); have n6_ := Aside0.mk ((by rw [hg]; exact Nat.ne_of_lt (blk_lt (g := gb1090) (o := .cells #[.int .i64 0, .int .i64 0, .slice none 0 0] 25 (0, 0)) (by (with_reducible repeat (first | refine blk_drewN ?_ _ | refine blk_drew ?_ | refine blk_alloc ?_ _)); exact BK1090.out)) : gb1090 ≠ gb1091)); have n7_ := Aside0.mk ((by rw [hg]; exact Nat.ne_of_gt (blk_lt (g := gb1090) (o := .cells #[.int .i64 0, .int .i64 0, .slice none 0 0] 25 (0, 0)) (by (with_reducible repeat (first | refine blk_drewN ?_ _ | refine blk_drew ?_ | refine blk_alloc ?_ _)); exact BK1090.out)) : gb1091 ≠ gb1090)); clear HO1080; clear BK1090; clear HB; have HO1080 := n0_; have BK1090 := n1_; have HB := n2_; have BK1091 := n3_; have GW1091 := n4_; have GE1091 := n5_; have NB1090_1091 := n6_; have NB1091_1090 := n7_; clear n0_ n1_ n2_ n3_ n4_ n5_ n6_ n7_; clear hb hbox hg; have hnb10 := NB1090_1091.out; have hnc10 := NB1091_1090.out; have hcz11_0 : w9.cell? ⟨gb1090, 0, none⟩ = some (.int .i64 0) := (blk_cell BK1090.out 0).trans rfl; have hcz11_1 : w9.cell? ⟨gb1090, 1, none⟩ = some (.int .i64 0) := (blk_cell BK1090.out 1).trans rfl; have hcz11_2 : w9.cell? ⟨gb1090, 2, none⟩ = some (.slice none 0 0) := (blk_cell BK1090.out 2).trans rfl; have hfz11_0 := blk_frozen BK1090.out 0; have hfz11_1 := blk_frozen BK1090.out 1; have hfz11_2 := blk_frozen BK1090.out 2; obtain ⟨Ao12, co12, eo12, _⟩ := Kd.Q_slice HO1080.out; subst eo12; have hcz13_0 : w9.cell? ⟨gb1091, 0, none⟩ = some (.int .i64 0) := (blk_cell BK1091.out 0).trans rfl; have hcz13_1 : w9.cell? ⟨gb1091, 1, none⟩ = some (.int .i64 0) := (blk_cell BK1091.out 1).trans rfl; have hcz13_2 : w9.cell? ⟨gb1091, 2, none⟩ = some (.int .i64 0) := (blk_cell BK1091.out 2).trans rfl; have hcz13_3 : w9.cell? ⟨gb1091, 3, none⟩ = some (.int .i64 0) := (blk_cell BK1091.out 3).trans rfl; have hcz13_4 : w9.cell? ⟨gb1091, 4, none⟩ = some (.int .i64 0) := (blk_cell BK1091.out 4).trans rfl; have hcz13_5 : w9.cell? ⟨gb1091, 5, none⟩ = some (.int .i64 0) := (blk_cell BK1091.out 5).trans rfl; have hcz13_6 : w9.cell? ⟨gb1091, 6, none⟩ = some (.int .i64 0) := (blk_cell BK1091.out 6).trans rfl; have hcz13_7 : w9.cell? ⟨gb1091, 7, none⟩ = some (.int .i64 0) := (blk_cell BK1091.out 7).trans rfl; have hfz13_0 := blk_frozen BK1091.out 0; have hfz13_1 := blk_frozen BK1091.out 1; have hfz13_2 := blk_frozen BK1091.out 2; have hfz13_3 := blk_frozen BK1091.out 3; have hfz13_4 := blk_frozen BK1091.out 4; have hfz13_5 := blk_frozen BK1091.out 5; have hfz13_6 := blk_frozen BK1091.out 6; have hfz13_7 := blk_frozen BK1091.out 7) | ((with_reducible refine gate_callee (f := 50) rfl ?_); refine goesL_ (some 24) rfl rfl Try.func50 (by kernel_rfl) rfl #[.agg #[.int .i64 t1076, .int .i64 t1077, .slice Ao12 t1078.length co12], .agg #[.int .i64 t1081, .int .i64 t1082, .int .i64 t1083, .int .i64 t1084, .int .i64 t1085, .int .i64 t1086, .int .i64 t1087, .int .i64 t1088], .int .i64 t1089] rfl (by (try simp only [List.map_toArray, List.map_cons, List.map_nil]); first | done | rfl | (simp only [List.length_drop, List.length_take]; rfl)) ?_; (with_reducible refine (spec_RecDo.calls k t1076 t1077 _ _ t1078 t1081 t1082 t1083 t1084 t1085 t1086 t1087 t1088 t1089 t1092 t1093 t1094 t1097 _ ?side1 ?side2 A4.out).mono ?_); (case side1 => refine (Kd.Q_reads' (e := 3) (base := w.heap.size) (ok := fun k_ => True) (n := t1078.length) (c := co12) ?_).2.2; exact (by (with_reducible repeat (first | apply Kd.Q_alloc | apply Kd.Q_drewN | apply Kd.Q_drew)); exact (Kd.Q_mono (Kd.Q_mono (Kd.Q_far (p := ⟨gb1091, 7, none⟩) (Kd.Q_far (p := ⟨gb1091, 6, none⟩) (Kd.Q_far (p := ⟨gb1091, 5, none⟩) (Kd.Q_far (p := ⟨gb1091, 4, none⟩) (Kd.Q_far (p := ⟨gb1091, 3, none⟩) (Kd.Q_far (p := ⟨gb1091, 2, none⟩) (Kd.Q_far (p := ⟨gb1091, 1, none⟩) (Kd.Q_far (p := ⟨gb1091, 0, none⟩) (Kd.Q_far (p := ⟨gb1090, 2, none⟩) (Kd.Q_far (p := ⟨gb1090, 1, none⟩) (Kd.Q_far (p := ⟨gb1090, 0, none⟩) (Kd.Q_types (Kd.Q_types HO1080.out BK1090.out (by decide)) BK1091.out (by decide)) (fun _ hk => hk.1.2) (.int .i64 t1076)) (fun _ hk => hk.1.2) (.int .i64 t1077)) (fun _ hk => hk.1.2) (.slice Ao12 t1078.length co12)) (fun _ hk => hk.2) (.int .i64 t1081)) (fun _ hk => hk.2) (.int .i64 t1082)) (fun _ hk => hk.2) (.int .i64 t1083)) (fun _ hk => hk.2) (.int .i64 t1084)) (fun _ hk => hk.2) (.int .i64 t1085)) (fun _ hk => hk.2) (.int .i64 t1086)) (fun _ hk => hk.2) (.int .i64 t1087)) (fun _ hk => hk.2) (.int .i64 t1088)) (fun _ h_ => h_.1)) (fun _ h_ => h_.1)))); (case side2 => exact (Kd.Q_reads' HO1080.out).2.1); rintro e w14 ⟨v1095, rfl, ho0, hb⟩; refine ⟨_, rfl, ?_⟩; have n0_ := Aside0.mk (Kd.Q_elder' (by (with_reducible repeat (first | apply Kd.Q_alloc | apply Kd.Q_drewN | apply Kd.Q_drew)); exact (Kd.Q_mono (Kd.Q_mono (Kd.Q_far (p := ⟨gb1091, 7, none⟩) (Kd.Q_far (p := ⟨gb1091, 6, none⟩) (Kd.Q_far (p := ⟨gb1091, 5, none⟩) (Kd.Q_far (p := ⟨gb1091, 4, none⟩) (Kd.Q_far (p := ⟨gb1091, 3, none⟩) (Kd.Q_far (p := ⟨gb1091, 2, none⟩) (Kd.Q_far (p := ⟨gb1091, 1, none⟩) (Kd.Q_far (p := ⟨gb1091, 0, none⟩) (Kd.Q_far (p := ⟨gb1090, 2, none⟩) (Kd.Q_far (p := ⟨gb1090, 1, none⟩) (Kd.Q_far (p := ⟨gb1090, 0, none⟩) (Kd.Q_types (Kd.Q_types HO1080.out BK1090.out (by decide)) BK1091.out (by decide)) (fun _ hk => hk.1.2) (.int .i64 t1076)) (fun _ hk => hk.1.2) (.int .i64 t1077)) (fun _ hk => hk.1.2) (.slice Ao12 t1078.length co12)) (fun _ hk => hk.2) (.int .i64 t1081)) (fun _ hk => hk.2) (.int .i64 t1082)) (fun _ hk => hk.2) (.int .i64 t1083)) (fun _ hk => hk.2) (.int .i64 t1084)) (fun _ hk => hk.2) (.int .i64 t1085)) (fun _ hk => hk.2) (.int .i64 t1086)) (fun _ hk => hk.2) (.int .i64 t1087)) (fun _ hk => hk.2) (.int .i64 t1088)) (fun _ h_ => h_.1)) (fun _ h_ => h_.1))) (Kd.R_base ho0) hb); have n1_ := Aside0.mk (Kd.R_lower (Kd.R_new' ho0 (Kd.Q_lt (by (with_reducible repeat (first | apply Kd.Q_alloc | apply Kd.Q_drewN | apply Kd.Q_drew)); exact (Kd.Q_mono (Kd.Q_mono (Kd.Q_far (p := ⟨gb1091, 7, none⟩) (Kd.Q_far (p := ⟨gb1091, 6, none⟩) (Kd.Q_far (p := ⟨gb1091, 5, none⟩) (Kd.Q_far (p := ⟨gb1091, 4, none⟩) (Kd.Q_far (p := ⟨gb1091, 3, none⟩) (Kd.Q_far (p := ⟨gb1091, 2, none⟩) (Kd.Q_far (p := ⟨gb1091, 1, none⟩) (Kd.Q_far (p := ⟨gb1091, 0, none⟩) (Kd.Q_far (p := ⟨gb1090, 2, none⟩) (Kd.Q_far (p := ⟨gb1090, 1, none⟩) (Kd.Q_far (p := ⟨gb1090, 0, none⟩) (Kd.Q_types (Kd.Q_types HO1080.out BK1090.out (by decide)) BK1091.out (by decide)) (fun _ hk => hk.1.2) (.int .i64 t1076)) (fun _ hk => hk.1.2) (.int .i64 t1077)) (fun _ hk => hk.1.2) (.slice Ao12 t1078.length co12)) (fun _ hk => hk.2) (.int .i64 t1081)) (fun _ hk => hk.2) (.int .i64 t1082)) (fun _ hk => hk.2) (.int .i64 t1083)) (fun _ hk => hk.2) (.int .i64 t1084)) (fun _ hk => hk.2) (.int .i64 t1085)) (fun _ hk => hk.2) (.int .i64 t1086)) (fun _ hk => hk.2) (.int .i64 t1087)) (fun _ hk => hk.2) (.int .i64 t1088)) (fun _ h_ => h_.1)) (fun _ h_ => h_.1))))) (below_size (by repeat (first | (with_reducible first | exact HB.out | apply below_alloc | apply pw_below_drewN | apply below_drew1 | refine below_set ?_ GE1090.out | refine below_set ?_ GE1091.out) | exact HB.out)))); have n2_ := Aside0.mk (blk_below (g := gb1090) (o := .cells #[.int .i64 t1076, .int .i64 t1077, .slice Ao12 t1078.length co12] 25 (0, 0)) (by (with_reducible repeat (first | refine blk_drewN ?_ _ | refine blk_drew ?_ | refine blk_alloc ?_ _)); refine blk_far ?_ NB1090_1091.out _; (with_reducible repeat (first | refine blk_drewN ?_ _ | refine blk_drew ?_ | refine blk_alloc ?_ _)); refine blk_far ?_ NB1090_1091.out _; (with_reducible repeat (first | refine blk_drewN ?_ _ | refine blk_drew ?_ | refine blk_alloc ?_ _)); refine blk_far ?_ NB1090_1091.out _; (with_reducible repeat (first | refine blk_drewN ?_ _ | refine blk_drew ?_ | refine blk_alloc ?_ _)); refine blk_far ?_ NB1090_1091.out _; (with_reducible repeat (first | refine blk_drewN ?_ _ | refine blk_drew ?_ | refine blk_alloc ?_ _)); refine blk_far ?_ NB1090_1091.out _; (with_reducible repeat (first | refine blk_drewN ?_ _ | refine blk_drew ?_ | refine blk_alloc ?_ _)); refine blk_far ?_ NB1090_1091.out _; (with_reducible repeat (first | refine blk_drewN ?_ _ | refine blk_drew ?_ | refine blk_alloc ?_ _)); refine blk_far ?_ NB1090_1091.out _; (with_reducible repeat (first | refine blk_drewN ?_ _ | refine blk_drew ?_ | refine blk_alloc ?_ _)); refine blk_far ?_ NB1090_1091.out _; (with_reducible repeat (first | refine blk_drewN ?_ _ | refine blk_drew ?_ | refine blk_alloc ?_ _)); refine blk_put (cs := #[.int .i64 t1076, .int .i64 t1077, .slice none 0 0]) ?_ 2 _ rfl; (with_reducible repeat (first | refine blk_drewN ?_ _ | refine blk_drew ?_ | refine blk_alloc ?_ _)); refine blk_put (cs := #[.int .i64 t1076, .int .i64 0, .slice none 0 0]) ?_ 1 _ rfl; (with_reducible repeat (first | refine blk_drewN ?_ _ | refine blk_drew ?_ | refine blk_alloc ?_ _)); refine blk_put (cs := #[.int .i64 0, .int .i64 0, .slice none 0 0]) ?_ 0 _ rfl; (with_reducible repeat (first | refine blk_drewN ?_ _ | refine blk_drew ?_ | refine blk_alloc ?_ _)); exact BK1090.out) hb); have n3_ := Aside0.mk (blk_below (g := gb1091) (o := .cells #[.int .i64 t1081, .int .i64 t1082, .int .i64 t1083, .int .i64 t1084, .int .i64 t1085, .int .i64 t1086, .int .i64 t1087, .int .i64 t1088] 41 (0, 0)) (by (with_reducible repeat (first | refine blk_drewN ?_ _ | refine blk_drew ?_ | refine blk_alloc ?_ _)); refine blk_put (cs := #[.int .i64 t1081, .int .i64 t1082, .int .i64 t1083, .int .i64 t1084, .int .i64 t1085, .int .i64 t1086, .int .i64 t1087, .int .i64 0]) ?_ 7 _ rfl; (with_reducible repeat (first | refine blk_drewN ?_ _ | refine blk_drew ?_ | refine blk_alloc ?_ _)); refine blk_put (cs := #[.int .i64 t1081, .int .i64 t1082, .int .i64 t1083, .int .i64 t1084, .int .i64 t1085, .int .i64 t1086, .int .i64 0, .int .i64 0]) ?_ 6 _ rfl; (with_reducible repeat (first | refine blk_drewN ?_ _ | refine blk_drew ?_ | refine blk_alloc ?_ _)); refine blk_put (cs := #[.int .i64 t1081, .int .i64 t1082, .int .i64 t1083, .int .i64 t1084, .int .i64 t1085, .int .i64 0, .int .i64 0, .int .i64 0]) ?_ 5 _ rfl; (with_reducible repeat (first | refine blk_drewN ?_ _ | refine blk_drew ?_ | refine blk_alloc ?_ _)); refine blk_put (cs := #[.int .i64 t1081, .int .i64 t1082, .int .i64 t1083, .int .i64 t1084, .int .i64 0, .int .i64 0, .int .i64 0, .int .i64 0]) ?_ 4 _ rfl; (with_reducible repeat (first | refine blk_drewN ?_ _ | refine blk_drew ?_ | refine blk_alloc ?_ _)); refine blk_put (cs := #[.int .i64 t1081, .int .i64 t1082, .int .i64 t1083, .int .i64 0, .int .i64 0, .int .i64 0, .int .i64 0, .int .i64 0]) ?_ 3 _ rfl; (with_reducible repeat (first | refine blk_drewN ?_ _ | refine blk_drew ?_ | refine blk_alloc ?_ _)); refine blk_put (cs := #[.int .i64 t1081, .int .i64 t1082, .int .i64 0, .int .i64 0, .int .i64 0, .int .i64 0, .int .i64 0, .int .i64 0]) ?_ 2 _ rfl; (with_reducible repeat (first | refine blk_drewN ?_ _ | refine blk_drew ?_ | refine blk_alloc ?_ _)); refine blk_put (cs := #[.int .i64 t1081, .int .i64 0, .int .i64 0, .int .i64 0, .int .i64 0, .int .i64 0, .int .i64 0, .int .i64 0]) ?_ 1 _ rfl; (with_reducible repeat (first | refine blk_drewN ?_ _ | refine blk_drew ?_ | refine blk_alloc ?_ _)); refine blk_put (cs := #[.int .i64 0, .int .i64 0, .int .i64 0, .int .i64 0, .int .i64 0, .int .i64 0, .int .i64 0, .int .i64 0]) ?_ 0 _ rfl; (with_reducible repeat (first | refine blk_drewN ?_ _ | refine blk_drew ?_ | refine blk_alloc ?_ _)); refine blk_far ?_ NB1091_1090.out _; (with_reducible repeat (first | refine blk_drewN ?_ _ | refine blk_drew ?_ | refine blk_alloc ?_ _)); refine blk_far ?_ NB1091_1090.out _; (with_reducible repeat (first | refine blk_drewN ?_ _ | refine blk_drew ?_ | refine blk_alloc ?_ _)); refine blk_far ?_ NB1091_1090.out _; (with_reducible repeat (first | refine blk_drewN ?_ _ | refine blk_drew ?_ | refine blk_alloc ?_ _)); exact BK1091.out) hb); have n4_ := Aside0.mk (below_step (by repeat (first | (with_reducible first | exact HB.out | apply below_alloc | apply pw_below_drewN | apply below_drew1 | refine below_set ?_ GE1090.out | refine below_set ?_ GE1091.out) | exact HB.out)) hb); clear HO1080; clear BK1090; clear BK1091; clear HB; have HO1080 := n0_; have HO1096 := n1_; have BK1090 := n2_; have BK1091 := n3_; have HB := n4_; clear n0_ n1_ n2_ n3_ n4_; (try clear hb); (try clear hb2); (try clear hk); (try clear hi); (try clear ho0)) | ((with_reducible refine gate_dst (N := 6) rfl ?_); refine box_event ?hg (N := 6) ?hd (cs := #[.int .i64 0, .int .i64 0, .slice none 0 0]) (t := 25) ?hr ?_; (case hd => rfl); (case hg => rfl); (case hr => first | (go_simp; done) | (go_simp; rfl)); intro gb1098 hg w15 hbox hb; have n0_ := Aside0.mk (Kd.Q_below (by (with_reducible repeat (first | apply Kd.Q_alloc | apply Kd.Q_drewN | apply Kd.Q_drew)); exact HO1080.out) hb); have n1_ := Aside0.mk (Kd.R_below (by (with_reducible repeat (first | apply Kd.R_alloc | apply Kd.R_drewN | apply Kd.R_drew)); exact HO1096.out) hb); have n2_ := Aside0.mk (blk_below (g := gb1090) (o := .cells #[.int .i64 t1076, .int .i64 t1077, .slice Ao12 t1078.length co12] 25 (0, 0)) (by (with_reducible repeat (first | refine blk_drewN ?_ _ | refine blk_drew ?_ | refine blk_alloc ?_ _)); exact BK1090.out) hb); have n3_ := Aside0.mk (blk_below (g := gb1091) (o := .cells #[.int .i64 t1081, .int .i64 t1082, .int .i64 t1083, .int .i64 t1084, .int .i64 t1085, .int .i64 t1086, .int .i64 t1087, .int .i64 t1088] 41 (0, 0)) (by (with_reducible repeat (first | refine blk_drewN ?_ _ | refine blk_drew ?_ | refine blk_alloc ?_ _)); exact BK1091.out) hb); have n4_ := Aside0.mk (below_step (by repeat (first | (with_reducible first | exact HB.out | apply below_alloc | apply pw_below_drewN | apply below_drew1 | refine below_set ?_ GE1090.out | refine below_set ?_ GE1091.out) | exact HB.out)) hb); have n5_ := Aside0.mk (hbox); have n6_ := Aside0.mk ((by rw [hg]; exact (below_size (by repeat (first | (with_reducible first | exact HB.out | apply below_alloc | apply pw_below_drewN | apply below_drew1 | refine below_set ?_ GE1090.out | refine below_set ?_ GE1091.out) | exact HB.out))) : w.heap.size ≤ gb1098)); have n7_ := Aside0.mk ((by rw [hg]; exact (below_size (by repeat (first | (with_reducible first | exact HB.out | apply below_alloc | apply pw_below_drewN | apply below_drew1 | refine below_set ?_ GE1090.out | refine below_set ?_ GE1091.out) | exact HB.out))) : w.heap.size ≤ gb1098)); have n8_ := Aside0.mk ((by rw [hg]; exact Nat.ne_of_lt (blk_lt (g := gb1090) (o := .cells #[.int .i64 t1076, .int .i64 t1077, .slice Ao12 t1078.length co12] 25 (0, 0)) (by (with_reducible repeat (first | refine blk_drewN ?_ _ | refine blk_drew ?_ | refine blk_alloc ?_ _)); exact BK1090.out)) : gb1090 ≠ gb1098)); have n9_ := Aside0.mk ((by rw [hg]; exact Nat.ne_of_gt (blk_lt (g := gb1090) (o := .cells #[.int .i64 t1076, .int .i64 t1077, .slice Ao12 t1078.length co12] 25 (0, 0)) (by (with_reducible repeat (first | refine blk_drewN ?_ _ | refine blk_drew ?_ | refine blk_alloc ?_ _)); exact BK1090.out)) : gb1098 ≠ gb1090)); have n10_ := Aside0.mk ((by rw [hg]; exact Nat.ne_of_lt (blk_lt (g := gb1091) (o := .cells #[.int .i64 t1081, .int .i64 t1082, .int .i64 t1083, .int .i64 t1084, .int .i64 t1085, .int .i64 t1086, .int .i64 t1087, .int .i64 t1088] 41 (0, 0)) (by (with_reducible repeat (first | refine blk_drewN ?_ _ | refine blk_drew ?_ | refine blk_alloc ?_ _)); exact BK1091.out)) : gb1091 ≠ gb1098)); have n11_ := Aside0.mk ((by rw [hg]; exact Nat.ne_of_gt (blk_lt (g := gb1091) (o := .cells #[.int .i64 t1081, .int .i64 t1082, .int .i64 t1083, .int .i64 t1084, .int .i64 t1085, .int .i64 t1086, .int .i64 t1087, .int .i64 t1088] 41 (0, 0)) (by (with_reducible repeat (first | refine blk_drewN ?_ _ | refine blk_drew ?_ | refine blk_alloc ?_ _)); exact BK1091.out)) : gb1098 ≠ gb1091)); clear HO1080; clear HO1096; clear BK1090; clear BK1091; clear HB; have HO1080 := n0_; have HO1096 := n1_; have BK1090 := n2_; have BK1091 := n3_; have HB := n4_; have BK1098 := n5_; have GW1098 := n6_; have GE1098 := n7_; have NB1090_1098 := n8_; have NB1098_1090 := n9_; have NB1091_1098 := n10_; have NB1098_1091 := n11_; clear n0_ n1_ n2_ n3_ n4_ n5_ n6_ n7_ n8_ n9_ n10_ n11_; clear hb hbox hg; have hnb16 := NB1098_1090.out; have hnc16 := NB1090_1098.out; have hnb17 := NB1098_1091.out; have hnc17 := NB1091_1098.out; have hcz18_0 : w15.cell? ⟨gb1098, 0, none⟩ = some (.int .i64 0) := (blk_cell BK1098.out 0).trans rfl; have hcz18_1 : w15.cell? ⟨gb1098, 1, none⟩ = some (.int .i64 0) := (blk_cell BK1098.out 1).trans rfl; have hcz18_2 : w15.cell? ⟨gb1098, 2, none⟩ = some (.slice none 0 0) := (blk_cell BK1098.out 2).trans rfl; have hfz18_0 := blk_frozen BK1098.out 0; have hfz18_1 := blk_frozen BK1098.out 1; have hfz18_2 := blk_frozen BK1098.out 2; obtain ⟨Ao19, co19, eo19⟩ := Kd.R_slice HO1096.out; subst eo19; have hcz20_0 : w15.cell? ⟨gb1090, 0, none⟩ = some (.int .i64 t1076) := (blk_cell BK1090.out 0).trans rfl; have hcz20_1 : w15.cell? ⟨gb1090, 1, none⟩ = some (.int .i64 t1077) := (blk_cell BK1090.out 1).trans rfl; have hcz20_2 : w15.cell? ⟨gb1090, 2, none⟩ = some (.slice Ao12 t1078.length co12) := (blk_cell BK1090.out 2).trans rfl; have hfz20_0 := blk_frozen BK1090.out 0; have hfz20_1 := blk_frozen BK1090.out 1; have hfz20_2 := blk_frozen BK1090.out 2; have hcz21_0 : w15.cell? ⟨gb1091, 0, none⟩ = some (.int .i64 t1081) := (blk_cell BK1091.out 0).trans rfl; have hcz21_1 : w15.cell? ⟨gb1091, 1, none⟩ = some (.int .i64 t1082) := (blk_cell BK1091.out 1).trans rfl; have hcz21_2 : w15.cell? ⟨gb1091, 2, none⟩ = some (.int .i64 t1083) := (blk_cell BK1091.out 2).trans rfl; have hcz21_3 : w15.cell? ⟨gb1091, 3, none⟩ = some (.int .i64 t1084) := (blk_cell BK1091.out 3).trans rfl; have hcz21_4 : w15.cell? ⟨gb1091, 4, none⟩ = some (.int .i64 t1085) := (blk_cell BK1091.out 4).trans rfl; have hcz21_5 : w15.cell? ⟨gb1091, 5, none⟩ = some (.int .i64 t1086) := (blk_cell BK1091.out 5).trans rfl; have hcz21_6 : w15.cell? ⟨gb1091, 6, none⟩ = some (.int .i64 t1087) := (blk_cell BK1091.out 6).trans rfl; have hcz21_7 : w15.cell? ⟨gb1091, 7, none⟩ = some (.int .i64 t1088) := (blk_cell BK1091.out 7).trans rfl; have hfz21_0 := blk_frozen BK1091.out 0; have hfz21_1 := blk_frozen BK1091.out 1; have hfz21_2 := blk_frozen BK1091.out 2; have hfz21_3 := blk_frozen BK1091.out 3; have hfz21_4 := blk_frozen BK1091.out 4; have hfz21_5 := blk_frozen BK1091.out 5; have hfz21_6 := blk_frozen BK1091.out 6; have hfz21_7 := blk_frozen BK1091.out 7) | ((with_reducible refine gate_callee (f := 42) rfl ?_); refine goesL_ (some 31) rfl rfl Try.func42 (by kernel_rfl) rfl #[.agg #[.int .i64 t1076, .int .i64 t1077, .slice Ao12 t1078.length co12], .agg #[.int .i64 t1081, .int .i64 t1082, .int .i64 t1083, .int .i64 t1084, .int .i64 t1085, .int .i64 t1086, .int .i64 t1087, .int .i64 t1088], .int .i64 t1089] rfl (by (try simp only [List.map_toArray, List.map_cons, List.map_nil]); first | done | rfl | (simp only [List.length_drop, List.length_take]; rfl)) ?_; (with_reducible refine (impl_RecDo.calls k t1076 t1077 _ _ t1078 t1081 t1082 t1083 t1084 t1085 t1086 t1087 t1088 t1089 t1099 t1100 t1101 t1104 _ ?side1 ?side2 A5.out).mono ?_); (case side1 => refine (Kd.Q_reads' (e := 3) (base := w.heap.size) (ok := fun k_ => (True ∧ some k_ ≠ (.slice Ao19 t1094.length co19 : Value).ownBlock)) (n := t1078.length) (c := co12) ?_).2.2; exact (by (with_reducible repeat (first | apply Kd.Q_alloc | apply Kd.Q_drewN | apply Kd.Q_drew)); exact (Kd.Q_mono (Kd.Q_far (p := ⟨gb1098, 2, none⟩) (Kd.Q_far (p := ⟨gb1098, 1, none⟩) (Kd.Q_far (p := ⟨gb1098, 0, none⟩) (Kd.Q_types HO1080.out BK1098.out (by decide)) (fun _ hk => hk.2) (.int .i64 t1092)) (fun _ hk => hk.2) (.int .i64 t1093)) (fun _ hk => hk.2) (.slice Ao19 t1094.length co19)) (fun _ h_ => h_.1)))); (case side2 => exact (Kd.Q_reads' HO1080.out).2.1); rintro e w22 ⟨v1102, rfl, ho0, hb⟩; refine ⟨_, rfl, ?_⟩; have n0_ := Aside0.mk (Kd.Q_elder' (by (with_reducible repeat (first | apply Kd.Q_alloc | apply Kd.Q_drewN | apply Kd.Q_drew)); exact (Kd.Q_mono (Kd.Q_far (p := ⟨gb1098, 2, none⟩) (Kd.Q_far (p := ⟨gb1098, 1, none⟩) (Kd.Q_far (p := ⟨gb1098, 0, none⟩) (Kd.Q_types HO1080.out BK1098.out (by decide)) (fun _ hk => hk.2) (.int .i64 t1092)) (fun _ hk => hk.2) (.int .i64 t1093)) (fun _ hk => hk.2) (.slice Ao19 t1094.length co19)) (fun _ h_ => h_.1))) (Kd.R_base ho0) hb); have n1_ := Aside0.mk (Kd.R_elder' (by (with_reducible repeat (first | apply Kd.R_alloc | apply Kd.R_drewN | apply Kd.R_drew)); exact (Kd.R_mono (Kd.R_far (p := ⟨gb1098, 2, none⟩) (Kd.R_far (p := ⟨gb1098, 1, none⟩) (Kd.R_far (p := ⟨gb1098, 0, none⟩) (Kd.R_types HO1096.out BK1098.out (by decide)) (fun _ hk => hk.2) (.int .i64 t1092)) (fun _ hk => hk.2) (.int .i64 t1093)) (fun _ hk => hk.2) (.slice Ao19 t1094.length co19)) (fun _ h_ => h_.1))) (Kd.R_base ho0) hb); have n2_ := Aside0.mk (Kd.R_lower (Kd.R_new' (Kd.R_new' ho0 (Kd.Q_lt (by (with_reducible repeat (first | apply Kd.Q_alloc | apply Kd.Q_drewN | apply Kd.Q_drew)); exact (Kd.Q_mono (Kd.Q_far (p := ⟨gb1098, 2, none⟩) (Kd.Q_far (p := ⟨gb1098, 1, none⟩) (Kd.Q_far (p := ⟨gb1098, 0, none⟩) (Kd.Q_types HO1080.out BK1098.out (by decide)) (fun _ hk => hk.2) (.int .i64 t1092)) (fun _ hk => hk.2) (.int .i64 t1093)) (fun _ hk => hk.2) (.slice Ao19 t1094.length co19)) (fun _ h_ => h_.1))))) (Kd.R_lt (by (with_reducible repeat (first | apply Kd.R_alloc | apply Kd.R_drewN | apply Kd.R_drew)); exact (Kd.R_mono (Kd.R_far (p := ⟨gb1098, 2, none⟩) (Kd.R_far (p := ⟨gb1098, 1, none⟩) (Kd.R_far (p := ⟨gb1098, 0, none⟩) (Kd.R_types HO1096.out BK1098.out (by decide)) (fun _ hk => hk.2) (.int .i64 t1092)) (fun _ hk => hk.2) (.int .i64 t1093)) (fun _ hk => hk.2) (.slice Ao19 t1094.length co19)) (fun _ h_ => h_.1))))) (below_size (by repeat (first | (with_reducible first | exact HB.out | apply below_alloc | apply pw_below_drewN | apply below_drew1 | refine below_set ?_ GE1090.out | refine below_set ?_ GE1091.out | refine below_set ?_ GE1098.out) | exact HB.out)))); have n3_ := Aside0.mk (blk_below (g := gb1090) (o := .cells #[.int .i64 t1076, .int .i64 t1077, .slice Ao12 t1078.length co12] 25 (0, 0)) (by (with_reducible repeat (first | refine blk_drewN ?_ _ | refine blk_drew ?_ | refine blk_alloc ?_ _)); refine blk_far ?_ NB1090_1098.out _; (with_reducible repeat (first | refine blk_drewN ?_ _ | refine blk_drew ?_ | refine blk_alloc ?_ _)); refine blk_far ?_ NB1090_1098.out _; (with_reducible repeat (first | refine blk_drewN ?_ _ | refine blk_drew ?_ | refine blk_alloc ?_ _)); refine blk_far ?_ NB1090_1098.out _; (with_reducible repeat (first | refine blk_drewN ?_ _ | refine blk_drew ?_ | refine blk_alloc ?_ _)); exact BK1090.out) hb); have n4_ := Aside0.mk (blk_below (g := gb1091) (o := .cells #[.int .i64 t1081, .int .i64 t1082, .int .i64 t1083, .int .i64 t1084, .int .i64 t1085, .int .i64 t1086, .int .i64 t1087, .int .i64 t1088] 41 (0, 0)) (by (with_reducible repeat (first | refine blk_drewN ?_ _ | refine blk_drew ?_ | refine blk_alloc ?_ _)); refine blk_far ?_ NB1091_1098.out _; (with_reducible repeat (first | refine blk_drewN ?_ _ | refine blk_drew ?_ | refine blk_alloc ?_ _)); refine blk_far ?_ NB1091_1098.out _; (with_reducible repeat (first | refine blk_drewN ?_ _ | refine blk_drew ?_ | refine blk_alloc ?_ _)); refine blk_far ?_ NB1091_1098.out _; (with_reducible repeat (first | refine blk_drewN ?_ _ | refine blk_drew ?_ | refine blk_alloc ?_ _)); exact BK1091.out) hb); have n5_ := Aside0.mk (blk_below (g := gb1098) (o := .cells #[.int .i64 t1092, .int .i64 t1093, .slice Ao19 t1094.length co19] 25 (0, 0)) (by (with_reducible repeat (first | refine blk_drewN ?_ _ | refine blk_drew ?_ | refine blk_alloc ?_ _)); refine blk_put (cs := #[.int .i64 t1092, .int .i64 t1093, .slice none 0 0]) ?_ 2 _ rfl; (with_reducible repeat (first | refine blk_drewN ?_ _ | refine blk_drew ?_ | refine blk_alloc ?_ _)); refine blk_put (cs := #[.int .i64 t1092, .int .i64 0, .slice none 0 0]) ?_ 1 _ rfl; (with_reducible repeat (first | refine blk_drewN ?_ _ | refine blk_drew ?_ | refine blk_alloc ?_ _)); refine blk_put (cs := #[.int .i64 0, .int .i64 0, .slice none 0 0]) ?_ 0 _ rfl; (with_reducible repeat (first | refine blk_drewN ?_ _ | refine blk_drew ?_ | refine blk_alloc ?_ _)); exact BK1098.out) hb); have n6_ := Aside0.mk (below_step (by repeat (first | (with_reducible first | exact HB.out | apply below_alloc | apply pw_below_drewN | apply below_drew1 | refine below_set ?_ GE1090.out | refine below_set ?_ GE1091.out | refine below_set ?_ GE1098.out) | exact HB.out)) hb); clear HO1080; clear HO1096; clear BK1090; clear BK1091; clear BK1098; clear HB; have HO1080 := n0_; have HO1096 := n1_; have HO1103 := n2_; have BK1090 := n3_; have BK1091 := n4_; have BK1098 := n5_; have HB := n6_; clear n0_ n1_ n2_ n3_ n4_ n5_ n6_; (try clear hb); (try clear hb2); (try clear hk); (try clear hi); (try clear ho0)) | ((with_reducible refine gate_dst (N := 8) rfl ?_); refine box_event ?hg (N := 8) ?hd (cs := #[.int .i64 0, .int .i64 0, .slice none 0 0]) (t := 25) ?hr ?_; (case hd => rfl); (case hg => rfl); (case hr => first | (go_simp; done) | (go_simp; rfl)); intro gb1105 hg w23 hbox hb; have n0_ := Aside0.mk (Kd.Q_below (by (with_reducible repeat (first | apply Kd.Q_alloc | apply Kd.Q_drewN | apply Kd.Q_drew)); exact HO1080.out) hb); have n1_ := Aside0.mk (Kd.R_below (by (with_reducible repeat (first | apply Kd.R_alloc | apply Kd.R_drewN | apply Kd.R_drew)); exact HO1096.out) hb); have n2_ := Aside0.mk (Kd.R_below (by (with_reducible repeat (first | apply Kd.R_alloc | apply Kd.R_drewN | apply Kd.R_drew)); exact HO1103.out) hb); have n3_ := Aside0.mk (blk_below (g := gb1090) (o := .cells #[.int .i64 t1076, .int .i64 t1077, .slice Ao12 t1078.length co12] 25 (0, 0)) (by (with_reducible repeat (first | refine blk_drewN ?_ _ | refine blk_drew ?_ | refine blk_alloc ?_ _)); exact BK1090.out) hb); have n4_ := Aside0.mk (blk_below (g := gb1091) (o := .cells #[.int .i64 t1081, .int .i64 t1082, .int .i64 t1083, .int .i64 t1084, .int .i64 t1085, .int .i64 t1086, .int .i64 t1087, .int .i64 t1088] 41 (0, 0)) (by (with_reducible repeat (first | refine blk_drewN ?_ _ | refine blk_drew ?_ | refine blk_alloc ?_ _)); exact BK1091.out) hb); have n5_ := Aside0.mk (blk_below (g := gb1098) (o := .cells #[.int .i64 t1092, .int .i64 t1093, .slice Ao19 t1094.length co19] 25 (0, 0)) (by (with_reducible repeat (first | refine blk_drewN ?_ _ | refine blk_drew ?_ | refine blk_alloc ?_ _)); exact BK1098.out) hb); have n6_ := Aside0.mk (below_step (by repeat (first | (with_reducible first | exact HB.out | apply below_alloc | apply pw_below_drewN | apply below_drew1 | refine below_set ?_ GE1090.out | refine below_set ?_ GE1091.out | refine below_set ?_ GE1098.out) | exact HB.out)) hb); have n7_ := Aside0.mk (hbox); have n8_ := Aside0.mk ((by rw [hg]; exact (below_size (by repeat (first | (with_reducible first | exact HB.out | apply below_alloc | apply pw_below_drewN | apply below_drew1 | refine below_set ?_ GE1090.out | refine below_set ?_ GE1091.out | refine below_set ?_ GE1098.out) | exact HB.out))) : w.heap.size ≤ gb1105)); have n9_ := Aside0.mk ((by rw [hg]; exact (below_size (by repeat (first | (with_reducible first | exact HB.out | apply below_alloc | apply pw_below_drewN | apply below_drew1 | refine below_set ?_ GE1090.out | refine below_set ?_ GE1091.out | refine below_set ?_ GE1098.out) | exact HB.out))) : w.heap.size ≤ gb1105)); have n10_ := Aside0.mk ((by rw [hg]; exact Nat.ne_of_lt (blk_lt (g := gb1090) (o := .cells #[.int .i64 t1076, .int .i64 t1077, .slice Ao12 t1078.length co12] 25 (0, 0)) (by (with_reducible repeat (first | refine blk_drewN ?_ _ | refine blk_drew ?_ | refine blk_alloc ?_ _)); exact BK1090.out)) : gb1090 ≠ gb1105)); have n11_ := Aside0.mk ((by rw [hg]; exact Nat.ne_of_gt (blk_lt (g := gb1090) (o := .cells #[.int .i64 t1076, .int .i64 t1077, .slice Ao12 t1078.length co12] 25 (0, 0)) (by (with_reducible repeat (first | refine blk_drewN ?_ _ | refine blk_drew ?_ | refine blk_alloc ?_ _)); exact BK1090.out)) : gb1105 ≠ gb1090)); have n12_ := Aside0.mk ((by rw [hg]; exact Nat.ne_of_lt (blk_lt (g := gb1091) (o := .cells #[.int .i64 t1081, .int .i64 t1082, .int .i64 t1083, .int .i64 t1084, .int .i64 t1085, .int .i64 t1086, .int .i64 t1087, .int .i64 t1088] 41 (0, 0)) (by (with_reducible repeat (first | refine blk_drewN ?_ _ | refine blk_drew ?_ | refine blk_alloc ?_ _)); exact BK1091.out)) : gb1091 ≠ gb1105)); have n13_ := Aside0.mk ((by rw [hg]; exact Nat.ne_of_gt (blk_lt (g := gb1091) (o := .cells #[.int .i64 t1081, .int .i64 t1082, .int .i64 t1083, .int .i64 t1084, .int .i64 t1085, .int .i64 t1086, .int .i64 t1087, .int .i64 t1088] 41 (0, 0)) (by (with_reducible repeat (first | refine blk_drewN ?_ _ | refine blk_drew ?_ | refine blk_alloc ?_ _)); exact BK1091.out)) : gb1105 ≠ gb1091)); have n14_ := Aside0.mk ((by rw [hg]; exact Nat.ne_of_lt (blk_lt (g := gb1098) (o := .cells #[.int .i64 t1092, .int .i64 t1093, .slice Ao19 t1094.length co19] 25 (0, 0)) (by (with_reducible repeat (first | refine blk_drewN ?_ _ | refine blk_drew ?_ | refine blk_alloc ?_ _)); exact BK1098.out)) : gb1098 ≠ gb1105)); have n15_ := Aside0.mk ((by rw [hg]; exact Nat.ne_of_gt (blk_lt (g := gb1098) (o := .cells #[.int .i64 t1092, .int .i64 t1093, .slice Ao19 t1094.length co19] 25 (0, 0)) (by (with_reducible repeat (first | refine blk_drewN ?_ _ | refine blk_drew ?_ | refine blk_alloc ?_ _)); exact BK1098.out)) : gb1105 ≠ gb1098)); clear HO1080; clear HO1096; clear HO1103; clear BK1090; clear BK1091; clear BK1098; clear HB; have HO1080 := n0_; have HO1096 := n1_; have HO1103 := n2_; have BK1090 := n3_; have BK1091 := n4_; have BK1098 := n5_; have HB := n6_; have BK1105 := n7_; have GW1105 := n8_; have GE1105 := n9_; have NB1090_1105 := n10_; have NB1105_1090 := n11_; have NB1091_1105 := n12_; have NB1105_1091 := n13_; have NB1098_1105 := n14_; have NB1105_1098 := n15_; clear n0_ n1_ n2_ n3_ n4_ n5_ n6_ n7_ n8_ n9_ n10_ n11_ n12_ n13_ n14_ n15_; clear hb hbox hg; have hnb24 := NB1105_1090.out; have hnc24 := NB1090_1105.out; have hnb25 := NB1105_1091.out; have hnc25 := NB1091_1105.out; have hnb26 := NB1105_1098.out; have hnc26 := NB1098_1105.out; have hcz27_0 : w23.cell? ⟨gb1105, 0, none⟩ = some (.int .i64 0) := (blk_cell BK1105.out 0).trans rfl; have hcz27_1 : w23.cell? ⟨gb1105, 1, none⟩ = some (.int .i64 0) := (blk_cell BK1105.out 1).trans rfl; have hcz27_2 : w23.cell? ⟨gb1105, 2, none⟩ = some (.slice none 0 0) := (blk_cell BK1105.out 2).trans rfl; have hfz27_0 := blk_frozen BK1105.out 0; have hfz27_1 := blk_frozen BK1105.out 1; have hfz27_2 := blk_frozen BK1105.out 2; obtain ⟨Ao28, co28, eo28⟩ := Kd.R_slice HO1103.out; subst eo28))
    (try simp only [Act.put, List.setIfInBounds_toArray, List.set_cons_zero, List.set_cons_succ])
    go_cut [46] (fun v46 wc => ∃ (kq : Nat) (x46_5 : Bool), v46 = .bool x46_5 ∧ Aside0 (laws_FnRecDo.j0 kq t1089 t1097 t1104 x46_5 t1076 t1077 t1078 t1081 t1082 t1083 t1084 t1085 t1086 t1087 t1088 t1092 t1093 t1094 t1099 t1100 t1101 = some r) ∧ Aside0 (kq ≤ k) ∧ Aside0 (Kd.Q (Kd.int .i64) 3 wc w.heap.size (fun k_ => some k_ ≠ ((.slice Ao19 t1094.length co19) : Value).ownBlock ∧ some k_ ≠ ((.slice Ao28 t1101.length co28) : Value).ownBlock) (.slice Ao12 t1078.length co12) t1078) ∧ Aside0 (Kd.Q (Kd.int .i64) 3 wc w.heap.size (fun k_ => some k_ ≠ ((.slice Ao12 t1078.length co12) : Value).ownBlock ∧ some k_ ≠ ((.slice Ao28 t1101.length co28) : Value).ownBlock) (.slice Ao19 t1094.length co19) t1094) ∧ Aside0 (Kd.Q (Kd.int .i64) 3 wc w.heap.size (fun k_ => some k_ ≠ ((.slice Ao12 t1078.length co12) : Value).ownBlock ∧ some k_ ≠ ((.slice Ao19 t1094.length co19) : Value).ownBlock) (.slice Ao28 t1101.length co28) t1101) ∧ Aside0 (wc.heap[gb1090]? = some (.cells #[.int .i64 t1076, .int .i64 t1077, (.slice Ao12 t1078.length co12)] 25 (0, 0))) ∧ Aside0 (wc.heap[gb1091]? = some (.cells #[.int .i64 t1081, .int .i64 t1082, .int .i64 t1083, .int .i64 t1084, .int .i64 t1085, .int .i64 t1086, .int .i64 t1087, .int .i64 t1088] 41 (0, 0))) ∧ Aside0 (wc.heap[gb1098]? = some (.cells #[.int .i64 t1092, .int .i64 t1093, (.slice Ao19 t1094.length co19)] 25 (0, 0))) ∧ Aside0 (wc.heap[gb1105]? = some (.cells #[.int .i64 t1099, .int .i64 t1100, (.slice Ao28 t1101.length co28)] 25 (0, 0))) ∧ Aside0 (Below w.heap.size w wc))
    case first =>
      have H := HC6.out
      clear HC6
      by_cases c29 : (t1104 != t1097) = true
      · rw [if_pos c29] at H
        have c29b0 : (t1104 != t1097) = true := c29
        (try (have c29b1 : decide (t1104 = t1097) = false := by simpa using c29))
        (try (have c29b2 : (t1104 == t1097) = false := by simpa using c29))
        (try (have c29b3 : ¬ (t1104 = t1097) := by simpa using c29))
        clear c29
        (first | rw [c29b0] | (simp only [i64_w, i32_w]; rw [c29b0]) | skip)
        have H' := Aside0.mk H
        clear H
        go_wp2
        go_meet
        case rel => exact ⟨_, (true), (by first | rfl | (simp; done) | (simp [*]; done)), H', ⟨by first | omega | exact Nat.le_refl _⟩, ⟨by (with_reducible repeat (first | apply Kd.Q_alloc | apply Kd.Q_drewN | apply Kd.Q_drew)); exact Kd.Q_mono (Kd.Q_far (p := ⟨gb1105, 2, none⟩) (Kd.Q_far (p := ⟨gb1105, 1, none⟩) (Kd.Q_far (p := ⟨gb1105, 0, none⟩) (Kd.Q_types HO1080.out BK1105.out (by decide)) (fun _ hk => hk.2) (.int .i64 t1099)) (fun _ hk => hk.2) (.int .i64 t1100)) (fun _ hk => hk.2) (.slice Ao28 t1101.length co28)) (fun _ hk => ⟨hk.1.1.2, hk.1.2⟩)⟩, ⟨Kd.Q_of_R (by (with_reducible repeat (first | apply Kd.R_alloc | apply Kd.R_drewN | apply Kd.R_drew)); exact Kd.R_mono (Kd.R_far (p := ⟨gb1105, 2, none⟩) (Kd.R_far (p := ⟨gb1105, 1, none⟩) (Kd.R_far (p := ⟨gb1105, 0, none⟩) (Kd.R_types HO1096.out BK1105.out (by decide)) (fun _ hk => hk.2) (.int .i64 t1099)) (fun _ hk => hk.2) (.int .i64 t1100)) (fun _ hk => hk.2) (.slice Ao28 t1101.length co28)) (fun _ hk => ⟨hk.1.1.2, hk.1.2⟩))⟩, ⟨Kd.Q_of_R (by (with_reducible repeat (first | apply Kd.R_alloc | apply Kd.R_drewN | apply Kd.R_drew)); exact Kd.R_mono (Kd.R_far (p := ⟨gb1105, 2, none⟩) (Kd.R_far (p := ⟨gb1105, 1, none⟩) (Kd.R_far (p := ⟨gb1105, 0, none⟩) (Kd.R_types HO1103.out BK1105.out (by decide)) (fun _ hk => hk.2) (.int .i64 t1099)) (fun _ hk => hk.2) (.int .i64 t1100)) (fun _ hk => hk.2) (.slice Ao28 t1101.length co28)) (fun _ hk => ⟨hk.1.1.2, hk.1.2⟩))⟩, ⟨by (with_reducible repeat (first | refine blk_drewN ?_ _ | refine blk_drew ?_ | refine blk_alloc ?_ _)); refine blk_far ?_ NB1090_1105.out _; (with_reducible repeat (first | refine blk_drewN ?_ _ | refine blk_drew ?_ | refine blk_alloc ?_ _)); refine blk_far ?_ NB1090_1105.out _; (with_reducible repeat (first | refine blk_drewN ?_ _ | refine blk_drew ?_ | refine blk_alloc ?_ _)); refine blk_far ?_ NB1090_1105.out _; (with_reducible repeat (first | refine blk_drewN ?_ _ | refine blk_drew ?_ | refine blk_alloc ?_ _)); exact BK1090.out⟩, ⟨by (with_reducible repeat (first | refine blk_drewN ?_ _ | refine blk_drew ?_ | refine blk_alloc ?_ _)); refine blk_far ?_ NB1091_1105.out _; (with_reducible repeat (first | refine blk_drewN ?_ _ | refine blk_drew ?_ | refine blk_alloc ?_ _)); refine blk_far ?_ NB1091_1105.out _; (with_reducible repeat (first | refine blk_drewN ?_ _ | refine blk_drew ?_ | refine blk_alloc ?_ _)); refine blk_far ?_ NB1091_1105.out _; (with_reducible repeat (first | refine blk_drewN ?_ _ | refine blk_drew ?_ | refine blk_alloc ?_ _)); exact BK1091.out⟩, ⟨by (with_reducible repeat (first | refine blk_drewN ?_ _ | refine blk_drew ?_ | refine blk_alloc ?_ _)); refine blk_far ?_ NB1098_1105.out _; (with_reducible repeat (first | refine blk_drewN ?_ _ | refine blk_drew ?_ | refine blk_alloc ?_ _)); refine blk_far ?_ NB1098_1105.out _; (with_reducible repeat (first | refine blk_drewN ?_ _ | refine blk_drew ?_ | refine blk_alloc ?_ _)); refine blk_far ?_ NB1098_1105.out _; (with_reducible repeat (first | refine blk_drewN ?_ _ | refine blk_drew ?_ | refine blk_alloc ?_ _)); exact BK1098.out⟩, ⟨by (with_reducible repeat (first | refine blk_drewN ?_ _ | refine blk_drew ?_ | refine blk_alloc ?_ _)); refine blk_put (cs := #[.int .i64 t1099, .int .i64 t1100, .slice none 0 0]) ?_ 2 _ rfl; (with_reducible repeat (first | refine blk_drewN ?_ _ | refine blk_drew ?_ | refine blk_alloc ?_ _)); refine blk_put (cs := #[.int .i64 t1099, .int .i64 0, .slice none 0 0]) ?_ 1 _ rfl; (with_reducible repeat (first | refine blk_drewN ?_ _ | refine blk_drew ?_ | refine blk_alloc ?_ _)); refine blk_put (cs := #[.int .i64 0, .int .i64 0, .slice none 0 0]) ?_ 0 _ rfl; (with_reducible repeat (first | refine blk_drewN ?_ _ | refine blk_drew ?_ | refine blk_alloc ?_ _)); exact BK1105.out⟩, ⟨by repeat (first | (with_reducible first | exact HB.out | apply below_alloc | apply pw_below_drewN | apply below_drew1 | refine below_set ?_ GE1090.out | refine below_set ?_ GE1091.out | refine below_set ?_ GE1098.out | refine below_set ?_ GE1105.out) | exact HB.out)⟩⟩
      · rw [if_neg c29] at H
        have c29b0 : (t1104 != t1097) = false := by simpa using c29
        (try (have c29b1 : decide (t1104 = t1097) = true := by simpa using c29))
        (try (have c29b2 : (t1104 == t1097) = true := by simpa using c29))
        clear c29
        (first | rw [c29b0] | (simp only [i64_w, i32_w]; rw [c29b0]) | skip)
        replace H := Option.bind_eq_some_iff.mp H
        obtain ⟨t1106, A300, H⟩ := H
        replace H : (if t1106 = true then (laws_FnRecDo.j0 k t1089 t1097 t1104 (!t1104) t1076 t1077 t1078 t1081 t1082 t1083 t1084 t1085 t1086 t1087 t1088 t1092 t1093 t1094 t1099 t1100 t1101) else (laws_FnRecDo.j0 k t1089 t1097 t1104 true t1076 t1077 t1078 t1081 t1082 t1083 t1084 t1085 t1086 t1087 t1088 t1092 t1093 t1094 t1099 t1100 t1101)) = some r := H
        have A30 := Aside0.mk A300
        clear A300
        by_cases c31 : t1106 = true
        · subst c31
          have H1 : (laws_FnRecDo.j0 k t1089 t1097 t1104 (!t1104) t1076 t1077 t1078 t1081 t1082 t1083 t1084 t1085 t1086 t1087 t1088 t1092 t1093 t1094 t1099 t1100 t1101) = some r := by rw [if_pos rfl] at H; exact H
          clear H
          have H := H1
          clear H1
          have H' := Aside0.mk H
          clear H
          have hnb32 := NB1105_1090.out
          have hnc32 := NB1090_1105.out
          have hnb33 := NB1105_1091.out
          have hnc33 := NB1091_1105.out
          have hnb34 := NB1105_1098.out
          have hnc34 := NB1098_1105.out
          have hcz35_0 : w23.cell? ⟨gb1105, 0, none⟩ = some (.int .i64 0) := (blk_cell BK1105.out 0).trans rfl
          have hcz35_1 : w23.cell? ⟨gb1105, 1, none⟩ = some (.int .i64 0) := (blk_cell BK1105.out 1).trans rfl
          have hcz35_2 : w23.cell? ⟨gb1105, 2, none⟩ = some (.slice none 0 0) := (blk_cell BK1105.out 2).trans rfl
          have hfz35_0 := blk_frozen BK1105.out 0
          have hfz35_1 := blk_frozen BK1105.out 1
          have hfz35_2 := blk_frozen BK1105.out 2
          have hnb36 := NB1098_1090.out
          have hnc36 := NB1090_1098.out
          have hnb37 := NB1098_1091.out
          have hnc37 := NB1091_1098.out
          have hcz38_0 : w23.cell? ⟨gb1098, 0, none⟩ = some (.int .i64 t1092) := (blk_cell BK1098.out 0).trans rfl
          have hcz38_1 : w23.cell? ⟨gb1098, 1, none⟩ = some (.int .i64 t1093) := (blk_cell BK1098.out 1).trans rfl
          have hcz38_2 : w23.cell? ⟨gb1098, 2, none⟩ = some (.slice Ao19 t1094.length co19) := (blk_cell BK1098.out 2).trans rfl
          have hfz38_0 := blk_frozen BK1098.out 0
          have hfz38_1 := blk_frozen BK1098.out 1
          have hfz38_2 := blk_frozen BK1098.out 2
          go_wp2_with (first | (go_at_call 57; (with_reducible refine (laws_ltPage.calls k t1099 t1100 _ _ t1101 t1092 t1093 _ _ t1094 true _ ?side1 ?side2 ?side3 ?side4 A30.out).mono ?_); (case side1 => refine (Kd.R_reads' (e := 3) (base := w.heap.size) (ok := fun k_ => ((True ∧ some k_ ≠ (.slice Ao12 t1078.length co12 : Value).ownBlock) ∧ some k_ ≠ (.slice Ao19 t1094.length co19 : Value).ownBlock)) (n := t1101.length) (c := co28) ?_).2.2; exact (by (with_reducible repeat (first | apply Kd.R_alloc | apply Kd.R_drewN | apply Kd.R_drew)); exact (Kd.R_mono (Kd.R_far (p := ⟨gb1105, 2, none⟩) (Kd.R_far (p := ⟨gb1105, 1, none⟩) (Kd.R_far (p := ⟨gb1105, 0, none⟩) (Kd.R_types HO1103.out BK1105.out (by decide)) (fun _ hk => hk.2) (.int .i64 t1099)) (fun _ hk => hk.2) (.int .i64 t1100)) (fun _ hk => hk.2) (.slice Ao28 t1101.length co28)) (fun _ h_ => h_.1)))); (case side2 => exact (Kd.R_reads' HO1103.out).2.1); (case side3 => refine (Kd.R_reads' (e := 3) (base := w.heap.size) (ok := fun k_ => ((True ∧ some k_ ≠ (.slice Ao12 t1078.length co12 : Value).ownBlock) ∧ some k_ ≠ (.slice Ao28 t1101.length co28 : Value).ownBlock)) (n := t1094.length) (c := co19) ?_).2.2; exact (by (with_reducible repeat (first | apply Kd.R_alloc | apply Kd.R_drewN | apply Kd.R_drew)); exact (Kd.R_mono (Kd.R_far (p := ⟨gb1105, 2, none⟩) (Kd.R_far (p := ⟨gb1105, 1, none⟩) (Kd.R_far (p := ⟨gb1105, 0, none⟩) (Kd.R_types HO1096.out BK1105.out (by decide)) (fun _ hk => hk.2) (.int .i64 t1099)) (fun _ hk => hk.2) (.int .i64 t1100)) (fun _ hk => hk.2) (.slice Ao28 t1101.length co28)) (fun _ h_ => h_.1)))); (case side4 => exact (Kd.R_reads' HO1096.out).2.1); rintro e w39 ⟨rfl, hb⟩; have n0_ := Aside0.mk (Kd.Q_below (by (with_reducible repeat (first | apply Kd.Q_alloc | apply Kd.Q_drewN | apply Kd.Q_drew)); exact (Kd.Q_mono (Kd.Q_far (p := ⟨gb1105, 2, none⟩) (Kd.Q_far (p := ⟨gb1105, 1, none⟩) (Kd.Q_far (p := ⟨gb1105, 0, none⟩) (Kd.Q_types HO1080.out BK1105.out (by decide)) (fun _ hk => hk.2) (.int .i64 t1099)) (fun _ hk => hk.2) (.int .i64 t1100)) (fun _ hk => hk.2) (.slice Ao28 t1101.length co28)) (fun _ h_ => h_.1))) hb); have n1_ := Aside0.mk (Kd.R_below (by (with_reducible repeat (first | apply Kd.R_alloc | apply Kd.R_drewN | apply Kd.R_drew)); exact (Kd.R_mono (Kd.R_far (p := ⟨gb1105, 2, none⟩) (Kd.R_far (p := ⟨gb1105, 1, none⟩) (Kd.R_far (p := ⟨gb1105, 0, none⟩) (Kd.R_types HO1096.out BK1105.out (by decide)) (fun _ hk => hk.2) (.int .i64 t1099)) (fun _ hk => hk.2) (.int .i64 t1100)) (fun _ hk => hk.2) (.slice Ao28 t1101.length co28)) (fun _ h_ => h_.1))) hb); have n2_ := Aside0.mk (Kd.R_below (by (with_reducible repeat (first | apply Kd.R_alloc | apply Kd.R_drewN | apply Kd.R_drew)); exact (Kd.R_mono (Kd.R_far (p := ⟨gb1105, 2, none⟩) (Kd.R_far (p := ⟨gb1105, 1, none⟩) (Kd.R_far (p := ⟨gb1105, 0, none⟩) (Kd.R_types HO1103.out BK1105.out (by decide)) (fun _ hk => hk.2) (.int .i64 t1099)) (fun _ hk => hk.2) (.int .i64 t1100)) (fun _ hk => hk.2) (.slice Ao28 t1101.length co28)) (fun _ h_ => h_.1))) hb); have n3_ := Aside0.mk (blk_below (g := gb1090) (o := .cells #[.int .i64 t1076, .int .i64 t1077, .slice Ao12 t1078.length co12] 25 (0, 0)) (by (with_reducible repeat (first | refine blk_drewN ?_ _ | refine blk_drew ?_ | refine blk_alloc ?_ _)); refine blk_far ?_ NB1090_1105.out _; (with_reducible repeat (first | refine blk_drewN ?_ _ | refine blk_drew ?_ | refine blk_alloc ?_ _)); refine blk_far ?_ NB1090_1105.out _; (with_reducible repeat (first | refine blk_drewN ?_ _ | refine blk_drew ?_ | refine blk_alloc ?_ _)); refine blk_far ?_ NB1090_1105.out _; (with_reducible repeat (first | refine blk_drewN ?_ _ | refine blk_drew ?_ | refine blk_alloc ?_ _)); exact BK1090.out) hb); have n4_ := Aside0.mk (blk_below (g := gb1091) (o := .cells #[.int .i64 t1081, .int .i64 t1082, .int .i64 t1083, .int .i64 t1084, .int .i64 t1085, .int .i64 t1086, .int .i64 t1087, .int .i64 t1088] 41 (0, 0)) (by (with_reducible repeat (first | refine blk_drewN ?_ _ | refine blk_drew ?_ | refine blk_alloc ?_ _)); refine blk_far ?_ NB1091_1105.out _; (with_reducible repeat (first | refine blk_drewN ?_ _ | refine blk_drew ?_ | refine blk_alloc ?_ _)); refine blk_far ?_ NB1091_1105.out _; (with_reducible repeat (first | refine blk_drewN ?_ _ | refine blk_drew ?_ | refine blk_alloc ?_ _)); refine blk_far ?_ NB1091_1105.out _; (with_reducible repeat (first | refine blk_drewN ?_ _ | refine blk_drew ?_ | refine blk_alloc ?_ _)); exact BK1091.out) hb); have n5_ := Aside0.mk (blk_below (g := gb1098) (o := .cells #[.int .i64 t1092, .int .i64 t1093, .slice Ao19 t1094.length co19] 25 (0, 0)) (by (with_reducible repeat (first | refine blk_drewN ?_ _ | refine blk_drew ?_ | refine blk_alloc ?_ _)); refine blk_far ?_ NB1098_1105.out _; (with_reducible repeat (first | refine blk_drewN ?_ _ | refine blk_drew ?_ | refine blk_alloc ?_ _)); refine blk_far ?_ NB1098_1105.out _; (with_reducible repeat (first | refine blk_drewN ?_ _ | refine blk_drew ?_ | refine blk_alloc ?_ _)); refine blk_far ?_ NB1098_1105.out _; (with_reducible repeat (first | refine blk_drewN ?_ _ | refine blk_drew ?_ | refine blk_alloc ?_ _)); exact BK1098.out) hb); have n6_ := Aside0.mk (blk_below (g := gb1105) (o := .cells #[.int .i64 t1099, .int .i64 t1100, .slice Ao28 t1101.length co28] 25 (0, 0)) (by (with_reducible repeat (first | refine blk_drewN ?_ _ | refine blk_drew ?_ | refine blk_alloc ?_ _)); refine blk_put (cs := #[.int .i64 t1099, .int .i64 t1100, .slice none 0 0]) ?_ 2 _ rfl; (with_reducible repeat (first | refine blk_drewN ?_ _ | refine blk_drew ?_ | refine blk_alloc ?_ _)); refine blk_put (cs := #[.int .i64 t1099, .int .i64 0, .slice none 0 0]) ?_ 1 _ rfl; (with_reducible repeat (first | refine blk_drewN ?_ _ | refine blk_drew ?_ | refine blk_alloc ?_ _)); refine blk_put (cs := #[.int .i64 0, .int .i64 0, .slice none 0 0]) ?_ 0 _ rfl; (with_reducible repeat (first | refine blk_drewN ?_ _ | refine blk_drew ?_ | refine blk_alloc ?_ _)); exact BK1105.out) hb); have n7_ := Aside0.mk (below_step (by repeat (first | (with_reducible first | exact HB.out | apply below_alloc | apply pw_below_drewN | apply below_drew1 | refine below_set ?_ GE1090.out | refine below_set ?_ GE1091.out | refine below_set ?_ GE1098.out | refine below_set ?_ GE1105.out) | exact HB.out)) hb); clear HO1080; clear HO1096; clear HO1103; clear BK1090; clear BK1091; clear BK1098; clear BK1105; clear HB; have HO1080 := n0_; have HO1096 := n1_; have HO1103 := n2_; have BK1090 := n3_; have BK1091 := n4_; have BK1098 := n5_; have BK1105 := n6_; have HB := n7_; clear n0_ n1_ n2_ n3_ n4_ n5_ n6_ n7_; (try clear hb); (try clear hb2); (try clear hk); (try clear hi)))
          go_meet
          case rel => exact ⟨_, (!t1104), (by first | rfl | (simp; done) | (simp [*]; done)), H', ⟨by first | omega | exact Nat.le_refl _⟩, ⟨by (with_reducible repeat (first | apply Kd.Q_alloc | apply Kd.Q_drewN | apply Kd.Q_drew)); exact Kd.Q_mono HO1080.out (fun _ hk => ⟨hk.1.2, hk.2⟩)⟩, ⟨Kd.Q_of_R (by (with_reducible repeat (first | apply Kd.R_alloc | apply Kd.R_drewN | apply Kd.R_drew)); exact Kd.R_mono HO1096.out (fun _ hk => ⟨hk.1.2, hk.2⟩))⟩, ⟨Kd.Q_of_R (by (with_reducible repeat (first | apply Kd.R_alloc | apply Kd.R_drewN | apply Kd.R_drew)); exact Kd.R_mono HO1103.out (fun _ hk => ⟨hk.1.2, hk.2⟩))⟩, ⟨by (with_reducible repeat (first | refine blk_drewN ?_ _ | refine blk_drew ?_ | refine blk_alloc ?_ _)); exact BK1090.out⟩, ⟨by (with_reducible repeat (first | refine blk_drewN ?_ _ | refine blk_drew ?_ | refine blk_alloc ?_ _)); exact BK1091.out⟩, ⟨by (with_reducible repeat (first | refine blk_drewN ?_ _ | refine blk_drew ?_ | refine blk_alloc ?_ _)); exact BK1098.out⟩, ⟨by (with_reducible repeat (first | refine blk_drewN ?_ _ | refine blk_drew ?_ | refine blk_alloc ?_ _)); exact BK1105.out⟩, ⟨by repeat (first | (with_reducible first | exact HB.out | apply below_alloc | apply pw_below_drewN | apply below_drew1 | refine below_set ?_ GE1090.out | refine below_set ?_ GE1091.out | refine below_set ?_ GE1098.out | refine below_set ?_ GE1105.out) | exact HB.out)⟩⟩
        · replace c31 := Bool.eq_false_iff.mpr c31
          subst c31
          have H1 : (laws_FnRecDo.j0 k t1089 t1097 t1104 true t1076 t1077 t1078 t1081 t1082 t1083 t1084 t1085 t1086 t1087 t1088 t1092 t1093 t1094 t1099 t1100 t1101) = some r := by rw [if_neg (show ¬ (false = true) by decide)] at H; exact H
          clear H
          have H := H1
          clear H1
          have H' := Aside0.mk H
          clear H
          have hnb40 := NB1105_1090.out
          have hnc40 := NB1090_1105.out
          have hnb41 := NB1105_1091.out
          have hnc41 := NB1091_1105.out
          have hnb42 := NB1105_1098.out
          have hnc42 := NB1098_1105.out
          have hcz43_0 : w23.cell? ⟨gb1105, 0, none⟩ = some (.int .i64 0) := (blk_cell BK1105.out 0).trans rfl
          have hcz43_1 : w23.cell? ⟨gb1105, 1, none⟩ = some (.int .i64 0) := (blk_cell BK1105.out 1).trans rfl
          have hcz43_2 : w23.cell? ⟨gb1105, 2, none⟩ = some (.slice none 0 0) := (blk_cell BK1105.out 2).trans rfl
          have hfz43_0 := blk_frozen BK1105.out 0
          have hfz43_1 := blk_frozen BK1105.out 1
          have hfz43_2 := blk_frozen BK1105.out 2
          have hnb44 := NB1098_1090.out
          have hnc44 := NB1090_1098.out
          have hnb45 := NB1098_1091.out
          have hnc45 := NB1091_1098.out
          have hcz46_0 : w23.cell? ⟨gb1098, 0, none⟩ = some (.int .i64 t1092) := (blk_cell BK1098.out 0).trans rfl
          have hcz46_1 : w23.cell? ⟨gb1098, 1, none⟩ = some (.int .i64 t1093) := (blk_cell BK1098.out 1).trans rfl
          have hcz46_2 : w23.cell? ⟨gb1098, 2, none⟩ = some (.slice Ao19 t1094.length co19) := (blk_cell BK1098.out 2).trans rfl
          have hfz46_0 := blk_frozen BK1098.out 0
          have hfz46_1 := blk_frozen BK1098.out 1
          have hfz46_2 := blk_frozen BK1098.out 2
          go_wp2_with (first | (go_at_call 57; (with_reducible refine (laws_ltPage.calls k t1099 t1100 _ _ t1101 t1092 t1093 _ _ t1094 false _ ?side1 ?side2 ?side3 ?side4 A30.out).mono ?_); (case side1 => refine (Kd.R_reads' (e := 3) (base := w.heap.size) (ok := fun k_ => ((True ∧ some k_ ≠ (.slice Ao12 t1078.length co12 : Value).ownBlock) ∧ some k_ ≠ (.slice Ao19 t1094.length co19 : Value).ownBlock)) (n := t1101.length) (c := co28) ?_).2.2; exact (by (with_reducible repeat (first | apply Kd.R_alloc | apply Kd.R_drewN | apply Kd.R_drew)); exact (Kd.R_mono (Kd.R_far (p := ⟨gb1105, 2, none⟩) (Kd.R_far (p := ⟨gb1105, 1, none⟩) (Kd.R_far (p := ⟨gb1105, 0, none⟩) (Kd.R_types HO1103.out BK1105.out (by decide)) (fun _ hk => hk.2) (.int .i64 t1099)) (fun _ hk => hk.2) (.int .i64 t1100)) (fun _ hk => hk.2) (.slice Ao28 t1101.length co28)) (fun _ h_ => h_.1)))); (case side2 => exact (Kd.R_reads' HO1103.out).2.1); (case side3 => refine (Kd.R_reads' (e := 3) (base := w.heap.size) (ok := fun k_ => ((True ∧ some k_ ≠ (.slice Ao12 t1078.length co12 : Value).ownBlock) ∧ some k_ ≠ (.slice Ao28 t1101.length co28 : Value).ownBlock)) (n := t1094.length) (c := co19) ?_).2.2; exact (by (with_reducible repeat (first | apply Kd.R_alloc | apply Kd.R_drewN | apply Kd.R_drew)); exact (Kd.R_mono (Kd.R_far (p := ⟨gb1105, 2, none⟩) (Kd.R_far (p := ⟨gb1105, 1, none⟩) (Kd.R_far (p := ⟨gb1105, 0, none⟩) (Kd.R_types HO1096.out BK1105.out (by decide)) (fun _ hk => hk.2) (.int .i64 t1099)) (fun _ hk => hk.2) (.int .i64 t1100)) (fun _ hk => hk.2) (.slice Ao28 t1101.length co28)) (fun _ h_ => h_.1)))); (case side4 => exact (Kd.R_reads' HO1096.out).2.1); rintro e w47 ⟨rfl, hb⟩; have n0_ := Aside0.mk (Kd.Q_below (by (with_reducible repeat (first | apply Kd.Q_alloc | apply Kd.Q_drewN | apply Kd.Q_drew)); exact (Kd.Q_mono (Kd.Q_far (p := ⟨gb1105, 2, none⟩) (Kd.Q_far (p := ⟨gb1105, 1, none⟩) (Kd.Q_far (p := ⟨gb1105, 0, none⟩) (Kd.Q_types HO1080.out BK1105.out (by decide)) (fun _ hk => hk.2) (.int .i64 t1099)) (fun _ hk => hk.2) (.int .i64 t1100)) (fun _ hk => hk.2) (.slice Ao28 t1101.length co28)) (fun _ h_ => h_.1))) hb); have n1_ := Aside0.mk (Kd.R_below (by (with_reducible repeat (first | apply Kd.R_alloc | apply Kd.R_drewN | apply Kd.R_drew)); exact (Kd.R_mono (Kd.R_far (p := ⟨gb1105, 2, none⟩) (Kd.R_far (p := ⟨gb1105, 1, none⟩) (Kd.R_far (p := ⟨gb1105, 0, none⟩) (Kd.R_types HO1096.out BK1105.out (by decide)) (fun _ hk => hk.2) (.int .i64 t1099)) (fun _ hk => hk.2) (.int .i64 t1100)) (fun _ hk => hk.2) (.slice Ao28 t1101.length co28)) (fun _ h_ => h_.1))) hb); have n2_ := Aside0.mk (Kd.R_below (by (with_reducible repeat (first | apply Kd.R_alloc | apply Kd.R_drewN | apply Kd.R_drew)); exact (Kd.R_mono (Kd.R_far (p := ⟨gb1105, 2, none⟩) (Kd.R_far (p := ⟨gb1105, 1, none⟩) (Kd.R_far (p := ⟨gb1105, 0, none⟩) (Kd.R_types HO1103.out BK1105.out (by decide)) (fun _ hk => hk.2) (.int .i64 t1099)) (fun _ hk => hk.2) (.int .i64 t1100)) (fun _ hk => hk.2) (.slice Ao28 t1101.length co28)) (fun _ h_ => h_.1))) hb); have n3_ := Aside0.mk (blk_below (g := gb1090) (o := .cells #[.int .i64 t1076, .int .i64 t1077, .slice Ao12 t1078.length co12] 25 (0, 0)) (by (with_reducible repeat (first | refine blk_drewN ?_ _ | refine blk_drew ?_ | refine blk_alloc ?_ _)); refine blk_far ?_ NB1090_1105.out _; (with_reducible repeat (first | refine blk_drewN ?_ _ | refine blk_drew ?_ | refine blk_alloc ?_ _)); refine blk_far ?_ NB1090_1105.out _; (with_reducible repeat (first | refine blk_drewN ?_ _ | refine blk_drew ?_ | refine blk_alloc ?_ _)); refine blk_far ?_ NB1090_1105.out _; (with_reducible repeat (first | refine blk_drewN ?_ _ | refine blk_drew ?_ | refine blk_alloc ?_ _)); exact BK1090.out) hb); have n4_ := Aside0.mk (blk_below (g := gb1091) (o := .cells #[.int .i64 t1081, .int .i64 t1082, .int .i64 t1083, .int .i64 t1084, .int .i64 t1085, .int .i64 t1086, .int .i64 t1087, .int .i64 t1088] 41 (0, 0)) (by (with_reducible repeat (first | refine blk_drewN ?_ _ | refine blk_drew ?_ | refine blk_alloc ?_ _)); refine blk_far ?_ NB1091_1105.out _; (with_reducible repeat (first | refine blk_drewN ?_ _ | refine blk_drew ?_ | refine blk_alloc ?_ _)); refine blk_far ?_ NB1091_1105.out _; (with_reducible repeat (first | refine blk_drewN ?_ _ | refine blk_drew ?_ | refine blk_alloc ?_ _)); refine blk_far ?_ NB1091_1105.out _; (with_reducible repeat (first | refine blk_drewN ?_ _ | refine blk_drew ?_ | refine blk_alloc ?_ _)); exact BK1091.out) hb); have n5_ := Aside0.mk (blk_below (g := gb1098) (o := .cells #[.int .i64 t1092, .int .i64 t1093, .slice Ao19 t1094.length co19] 25 (0, 0)) (by (with_reducible repeat (first | refine blk_drewN ?_ _ | refine blk_drew ?_ | refine blk_alloc ?_ _)); refine blk_far ?_ NB1098_1105.out _; (with_reducible repeat (first | refine blk_drewN ?_ _ | refine blk_drew ?_ | refine blk_alloc ?_ _)); refine blk_far ?_ NB1098_1105.out _; (with_reducible repeat (first | refine blk_drewN ?_ _ | refine blk_drew ?_ | refine blk_alloc ?_ _)); refine blk_far ?_ NB1098_1105.out _; (with_reducible repeat (first | refine blk_drewN ?_ _ | refine blk_drew ?_ | refine blk_alloc ?_ _)); exact BK1098.out) hb); have n6_ := Aside0.mk (blk_below (g := gb1105) (o := .cells #[.int .i64 t1099, .int .i64 t1100, .slice Ao28 t1101.length co28] 25 (0, 0)) (by (with_reducible repeat (first | refine blk_drewN ?_ _ | refine blk_drew ?_ | refine blk_alloc ?_ _)); refine blk_put (cs := #[.int .i64 t1099, .int .i64 t1100, .slice none 0 0]) ?_ 2 _ rfl; (with_reducible repeat (first | refine blk_drewN ?_ _ | refine blk_drew ?_ | refine blk_alloc ?_ _)); refine blk_put (cs := #[.int .i64 t1099, .int .i64 0, .slice none 0 0]) ?_ 1 _ rfl; (with_reducible repeat (first | refine blk_drewN ?_ _ | refine blk_drew ?_ | refine blk_alloc ?_ _)); refine blk_put (cs := #[.int .i64 0, .int .i64 0, .slice none 0 0]) ?_ 0 _ rfl; (with_reducible repeat (first | refine blk_drewN ?_ _ | refine blk_drew ?_ | refine blk_alloc ?_ _)); exact BK1105.out) hb); have n7_ := Aside0.mk (below_step (by repeat (first | (with_reducible first | exact HB.out | apply below_alloc | apply pw_below_drewN | apply below_drew1 | refine below_set ?_ GE1090.out | refine below_set ?_ GE1091.out | refine below_set ?_ GE1098.out | refine below_set ?_ GE1105.out) | exact HB.out)) hb); clear HO1080; clear HO1096; clear HO1103; clear BK1090; clear BK1091; clear BK1098; clear BK1105; clear HB; have HO1080 := n0_; have HO1096 := n1_; have HO1103 := n2_; have BK1090 := n3_; have BK1091 := n4_; have BK1098 := n5_; have BK1105 := n6_; have HB := n7_; clear n0_ n1_ n2_ n3_ n4_ n5_ n6_ n7_; (try clear hb); (try clear hb2); (try clear hk); (try clear hi)))
          go_meet
          case rel => exact ⟨_, (true), (by first | rfl | (simp; done) | (simp [*]; done)), H', ⟨by first | omega | exact Nat.le_refl _⟩, ⟨by (with_reducible repeat (first | apply Kd.Q_alloc | apply Kd.Q_drewN | apply Kd.Q_drew)); exact Kd.Q_mono HO1080.out (fun _ hk => ⟨hk.1.2, hk.2⟩)⟩, ⟨Kd.Q_of_R (by (with_reducible repeat (first | apply Kd.R_alloc | apply Kd.R_drewN | apply Kd.R_drew)); exact Kd.R_mono HO1096.out (fun _ hk => ⟨hk.1.2, hk.2⟩))⟩, ⟨Kd.Q_of_R (by (with_reducible repeat (first | apply Kd.R_alloc | apply Kd.R_drewN | apply Kd.R_drew)); exact Kd.R_mono HO1103.out (fun _ hk => ⟨hk.1.2, hk.2⟩))⟩, ⟨by (with_reducible repeat (first | refine blk_drewN ?_ _ | refine blk_drew ?_ | refine blk_alloc ?_ _)); exact BK1090.out⟩, ⟨by (with_reducible repeat (first | refine blk_drewN ?_ _ | refine blk_drew ?_ | refine blk_alloc ?_ _)); exact BK1091.out⟩, ⟨by (with_reducible repeat (first | refine blk_drewN ?_ _ | refine blk_drew ?_ | refine blk_alloc ?_ _)); exact BK1098.out⟩, ⟨by (with_reducible repeat (first | refine blk_drewN ?_ _ | refine blk_drew ?_ | refine blk_alloc ?_ _)); exact BK1105.out⟩, ⟨by repeat (first | (with_reducible first | exact HB.out | apply below_alloc | apply pw_below_drewN | apply below_drew1 | refine below_set ?_ GE1090.out | refine below_set ?_ GE1091.out | refine below_set ?_ GE1098.out | refine below_set ?_ GE1105.out) | exact HB.out)⟩⟩
    case rest =>
      clear HC6
      try clear c1
      try clear c2
      try clear c2b0
      try clear c2b1
      try clear p2
      try clear c3
      try clear c4
      try clear c5
      try clear c10
      try clear c14
      try clear c16
      try clear c17
      try clear c24
      try clear c25
      try clear c26
      try clear c29
      try clear c29b0
      try clear c29b1
      try clear c29b2
      try clear c31
      try clear c32
      try clear c33
      try clear c34
      try clear c36
      try clear c37
      try clear c40
      try clear c41
      try clear c42
      try clear c44
      try clear c45
      try clear hcz11_0
      try clear hcz11_1
      try clear hcz11_2
      try clear hcz13_0
      try clear hcz13_1
      try clear hcz13_2
      try clear hcz13_3
      try clear hcz13_4
      try clear hcz13_5
      try clear hcz13_6
      try clear hcz13_7
      try clear hcz18_0
      try clear hcz18_1
      try clear hcz18_2
      try clear hcz20_0
      try clear hcz20_1
      try clear hcz20_2
      try clear hcz21_0
      try clear hcz21_1
      try clear hcz21_2
      try clear hcz21_3
      try clear hcz21_4
      try clear hcz21_5
      try clear hcz21_6
      try clear hcz21_7
      try clear hcz27_0
      try clear hcz27_1
      try clear hcz27_2
      try clear hcz35_0
      try clear hcz35_1
      try clear hcz35_2
      try clear hcz38_0
      try clear hcz38_1
      try clear hcz38_2
      try clear hcz43_0
      try clear hcz43_1
      try clear hcz43_2
      try clear hcz46_0
      try clear hcz46_1
      try clear hcz46_2
      try clear hfz11_0
      try clear hfz11_1
      try clear hfz11_2
      try clear hfz13_0
      try clear hfz13_1
      try clear hfz13_2
      try clear hfz13_3
      try clear hfz13_4
      try clear hfz13_5
      try clear hfz13_6
      try clear hfz13_7
      try clear hfz18_0
      try clear hfz18_1
      try clear hfz18_2
      try clear hfz20_0
      try clear hfz20_1
      try clear hfz20_2
      try clear hfz21_0
      try clear hfz21_1
      try clear hfz21_2
      try clear hfz21_3
      try clear hfz21_4
      try clear hfz21_5
      try clear hfz21_6
      try clear hfz21_7
      try clear hfz27_0
      try clear hfz27_1
      try clear hfz27_2
      try clear hfz35_0
      try clear hfz35_1
      try clear hfz35_2
      try clear hfz38_0
      try clear hfz38_1
      try clear hfz38_2
      try clear hfz43_0
      try clear hfz43_1
      try clear hfz43_2
      try clear hfz46_0
      try clear hfz46_1
      try clear hfz46_2
      obtain ⟨kq, x46_5, rfl, HA, HJ5, HO_1091002, HO_1099002, HO_1106002, BK1090, BK1091, BK1098, BK1105, HB⟩ := hcut
      cases kq with
      | zero => exact absurd HA.out (by simp [laws_FnRecDo.j0])
      | succ kj5 =>
        have H := HA.out
        clear HA
        simp only [laws_FnRecDo.j0] at H
        by_cases c48 : x46_5 = true
        · subst c48
          have H1 : (if (t1104 == t1097) = true then ((laws_ltPage.f kj5 t1099 t1100 t1101 t1092 t1093 t1094).bind fun t1107 => (some t1107)) else (some false)) = some r := by rw [if_pos rfl] at H; exact H
          clear H
          have H := H1
          clear H1
          by_cases c49 : (t1104 == t1097) = true
          · rw [if_pos c49] at H
            have c49b0 : (t1104 == t1097) = true := c49
            (try (have c49b1 : decide (t1104 = t1097) = true := by simpa using c49))
            (try (have c49b2 : (t1104 == t1097) = true := by simpa using c49))
            clear c49
            replace H := Option.bind_eq_some_iff.mp H
            obtain ⟨t1107, A500, H⟩ := H
            replace H : (some t1107) = some r := H
            have A50 := Aside0.mk A500
            clear A500
            obtain rfl := Option.some.inj H
            have hnb51 := NB1105_1090.out
            have hnc51 := NB1090_1105.out
            have hnb52 := NB1105_1091.out
            have hnc52 := NB1091_1105.out
            have hnb53 := NB1105_1098.out
            have hnc53 := NB1098_1105.out
            have hcz54_0 : wc.cell? ⟨gb1105, 0, none⟩ = some (.int .i64 t1099) := (blk_cell BK1105.out 0).trans rfl
            have hcz54_1 : wc.cell? ⟨gb1105, 1, none⟩ = some (.int .i64 t1100) := (blk_cell BK1105.out 1).trans rfl
            have hcz54_2 : wc.cell? ⟨gb1105, 2, none⟩ = some (.slice Ao28 t1101.length co28) := (blk_cell BK1105.out 2).trans rfl
            have hfz54_0 := blk_frozen BK1105.out 0
            have hfz54_1 := blk_frozen BK1105.out 1
            have hfz54_2 := blk_frozen BK1105.out 2
            have hnb55 := NB1098_1090.out
            have hnc55 := NB1090_1098.out
            have hnb56 := NB1098_1091.out
            have hnc56 := NB1091_1098.out
            have hcz57_0 : wc.cell? ⟨gb1098, 0, none⟩ = some (.int .i64 t1092) := (blk_cell BK1098.out 0).trans rfl
            have hcz57_1 : wc.cell? ⟨gb1098, 1, none⟩ = some (.int .i64 t1093) := (blk_cell BK1098.out 1).trans rfl
            have hcz57_2 : wc.cell? ⟨gb1098, 2, none⟩ = some (.slice Ao19 t1094.length co19) := (blk_cell BK1098.out 2).trans rfl
            have hfz57_0 := blk_frozen BK1098.out 0
            have hfz57_1 := blk_frozen BK1098.out 1
            have hfz57_2 := blk_frozen BK1098.out 2
            go_wp2_with (first | (go_at_call 57; (with_reducible refine (laws_ltPage.calls kj5 t1099 t1100 _ _ t1101 t1092 t1093 _ _ t1094 t1107 _ ?side1 ?side2 ?side3 ?side4 A50.out).mono ?_); (case side1 => repeat (first | exact (Kd.Q_reads' HO_1106002.out).2.2 | (with_reducible refine Kd.C_alloc ?_ _) | (with_reducible refine Kd.C_drewN ?_ _) | (with_reducible refine Kd.C_drew ?_))); (case side2 => exact (Kd.Q_reads' HO_1106002.out).2.1); (case side3 => repeat (first | exact (Kd.Q_reads' HO_1099002.out).2.2 | (with_reducible refine Kd.C_alloc ?_ _) | (with_reducible refine Kd.C_drewN ?_ _) | (with_reducible refine Kd.C_drew ?_))); (case side4 => exact (Kd.Q_reads' HO_1099002.out).2.1); rintro e w58 ⟨rfl, hb⟩; have n0_ := Aside0.mk (Kd.Q_below (by (with_reducible repeat (first | apply Kd.Q_alloc | apply Kd.Q_drewN | apply Kd.Q_drew)); exact HO_1091002.out) hb); have n1_ := Aside0.mk (Kd.Q_below (by (with_reducible repeat (first | apply Kd.Q_alloc | apply Kd.Q_drewN | apply Kd.Q_drew)); exact HO_1099002.out) hb); have n2_ := Aside0.mk (Kd.Q_below (by (with_reducible repeat (first | apply Kd.Q_alloc | apply Kd.Q_drewN | apply Kd.Q_drew)); exact HO_1106002.out) hb); have n3_ := Aside0.mk (blk_below (g := gb1090) (o := .cells #[.int .i64 t1076, .int .i64 t1077, .slice Ao12 t1078.length co12] 25 (0, 0)) (by (with_reducible repeat (first | refine blk_drewN ?_ _ | refine blk_drew ?_ | refine blk_alloc ?_ _)); exact BK1090.out) hb); have n4_ := Aside0.mk (blk_below (g := gb1091) (o := .cells #[.int .i64 t1081, .int .i64 t1082, .int .i64 t1083, .int .i64 t1084, .int .i64 t1085, .int .i64 t1086, .int .i64 t1087, .int .i64 t1088] 41 (0, 0)) (by (with_reducible repeat (first | refine blk_drewN ?_ _ | refine blk_drew ?_ | refine blk_alloc ?_ _)); exact BK1091.out) hb); have n5_ := Aside0.mk (blk_below (g := gb1098) (o := .cells #[.int .i64 t1092, .int .i64 t1093, .slice Ao19 t1094.length co19] 25 (0, 0)) (by (with_reducible repeat (first | refine blk_drewN ?_ _ | refine blk_drew ?_ | refine blk_alloc ?_ _)); exact BK1098.out) hb); have n6_ := Aside0.mk (blk_below (g := gb1105) (o := .cells #[.int .i64 t1099, .int .i64 t1100, .slice Ao28 t1101.length co28] 25 (0, 0)) (by (with_reducible repeat (first | refine blk_drewN ?_ _ | refine blk_drew ?_ | refine blk_alloc ?_ _)); exact BK1105.out) hb); have n7_ := Aside0.mk (below_step (by repeat (first | (with_reducible first | exact HB.out | apply below_alloc | apply pw_below_drewN | apply below_drew1 | refine below_set ?_ GE1090.out | refine below_set ?_ GE1091.out | refine below_set ?_ GE1098.out | refine below_set ?_ GE1105.out) | exact HB.out)) hb); clear HO_1091002; clear HO_1099002; clear HO_1106002; clear BK1090; clear BK1091; clear BK1098; clear BK1105; clear HB; have HO_1091002 := n0_; have HO_1099002 := n1_; have HO_1106002 := n2_; have BK1090 := n3_; have BK1091 := n4_; have BK1098 := n5_; have BK1105 := n6_; have HB := n7_; clear n0_ n1_ n2_ n3_ n4_ n5_ n6_ n7_; (try clear hb); (try clear hb2); (try clear hk); (try clear hi)))
            go_ret
            exact ⟨by first | rfl | (simp [errW_none, errW_some] <;> rfl) | (simp [*, errW_none, errW_some] <;> rfl), by repeat (first | (with_reducible first | exact HB.out | apply below_alloc | apply pw_below_drewN | apply below_drew1 | refine below_set ?_ GE1090.out | refine below_set ?_ GE1091.out | refine below_set ?_ GE1098.out | refine below_set ?_ GE1105.out) | exact HB.out)⟩
          · rw [if_neg c49] at H
            have c49b0 : (t1104 == t1097) = false := by simpa using c49
            (try (have c49b1 : decide (t1104 = t1097) = false := by simpa using c49))
            (try (have c49b2 : (t1104 == t1097) = false := by simpa using c49))
            (try (have c49b3 : ¬ (t1104 = t1097) := by simpa using c49))
            clear c49
            obtain rfl := Option.some.inj H
            exact absurd hT_.out (by simp)
        · replace c48 := Bool.eq_false_iff.mpr c48
          subst c48
          have H1 : (if t1099 = t1089 then (if t1089 ≤ t1076 then (laws_FnRecDo.j1 kj5 true t1076 t1077 t1078 t1081 t1082 t1083 t1084 t1085 t1086 t1087 t1088 t1099 t1100 t1101) else ((impl_PageOk.f kj5 t1099 t1100 t1101).bind fun t1108 => (laws_FnRecDo.j1 kj5 (!t1108) t1076 t1077 t1078 t1081 t1082 t1083 t1084 t1085 t1086 t1087 t1088 t1099 t1100 t1101))) else (laws_FnRecDo.j1 kj5 true t1076 t1077 t1078 t1081 t1082 t1083 t1084 t1085 t1086 t1087 t1088 t1099 t1100 t1101)) = some r := by rw [if_neg (show ¬ (false = true) by decide)] at H; exact H
          clear H
          have H := H1
          clear H1
          have HC59 := Aside0.mk H
          clear H
          go_upto_region 8 with (fail)
          go_cut [69] (fun v69 wc => ∃ (kq : Nat) (x69_58 : Bool), v69 = .bool x69_58 ∧ Aside0 (laws_FnRecDo.j1 kq x69_58 t1076 t1077 t1078 t1081 t1082 t1083 t1084 t1085 t1086 t1087 t1088 t1099 t1100 t1101 = some r) ∧ Aside0 (kq ≤ kj5) ∧ Aside0 (Kd.Q (Kd.int .i64) 3 wc w.heap.size (fun k_ => some k_ ≠ ((.slice Ao19 t1094.length co19) : Value).ownBlock ∧ some k_ ≠ ((.slice Ao28 t1101.length co28) : Value).ownBlock) (.slice Ao12 t1078.length co12) t1078) ∧ Aside0 (Kd.Q (Kd.int .i64) 3 wc w.heap.size (fun k_ => some k_ ≠ ((.slice Ao12 t1078.length co12) : Value).ownBlock ∧ some k_ ≠ ((.slice Ao28 t1101.length co28) : Value).ownBlock) (.slice Ao19 t1094.length co19) t1094) ∧ Aside0 (Kd.Q (Kd.int .i64) 3 wc w.heap.size (fun k_ => some k_ ≠ ((.slice Ao12 t1078.length co12) : Value).ownBlock ∧ some k_ ≠ ((.slice Ao19 t1094.length co19) : Value).ownBlock) (.slice Ao28 t1101.length co28) t1101) ∧ Aside0 (wc.heap[gb1090]? = some (.cells #[.int .i64 t1076, .int .i64 t1077, (.slice Ao12 t1078.length co12)] 25 (0, 0))) ∧ Aside0 (wc.heap[gb1091]? = some (.cells #[.int .i64 t1081, .int .i64 t1082, .int .i64 t1083, .int .i64 t1084, .int .i64 t1085, .int .i64 t1086, .int .i64 t1087, .int .i64 t1088] 41 (0, 0))) ∧ Aside0 (wc.heap[gb1098]? = some (.cells #[.int .i64 t1092, .int .i64 t1093, (.slice Ao19 t1094.length co19)] 25 (0, 0))) ∧ Aside0 (wc.heap[gb1105]? = some (.cells #[.int .i64 t1099, .int .i64 t1100, (.slice Ao28 t1101.length co28)] 25 (0, 0))) ∧ Aside0 (Below w.heap.size w wc))
          case first =>
            have H := HC59.out
            clear HC59
            by_cases c60 : t1099 = t1089
            · rw [if_pos c60] at H
              have c60b0 : (t1099 == t1089) = true := beq_iff_eq.mpr c60
              have c60b1 : (t1099 != t1089) = false := bne_eq_false_iff_eq.mpr c60
              clear c60
              (first | rw [c60b0] | (simp only [i64_w, i32_w]; rw [c60b0]) | skip)
              by_cases c61 : t1089 ≤ t1076
              · rw [if_pos c61] at H
                have c61b0 : decide (t1089 ≤ t1076) = true := decide_eq_true c61
                clear c61
                have H' := Aside0.mk H
                clear H
                have hnb62 := NB1105_1090.out
                have hnc62 := NB1090_1105.out
                have hnb63 := NB1105_1091.out
                have hnc63 := NB1091_1105.out
                have hnb64 := NB1105_1098.out
                have hnc64 := NB1098_1105.out
                have hcz65_0 : wc.cell? ⟨gb1105, 0, none⟩ = some (.int .i64 t1099) := (blk_cell BK1105.out 0).trans rfl
                have hcz65_1 : wc.cell? ⟨gb1105, 1, none⟩ = some (.int .i64 t1100) := (blk_cell BK1105.out 1).trans rfl
                have hcz65_2 : wc.cell? ⟨gb1105, 2, none⟩ = some (.slice Ao28 t1101.length co28) := (blk_cell BK1105.out 2).trans rfl
                have hfz65_0 := blk_frozen BK1105.out 0
                have hfz65_1 := blk_frozen BK1105.out 1
                have hfz65_2 := blk_frozen BK1105.out 2
                have hnb66 := NB1090_1091.out
                have hnc66 := NB1091_1090.out
                have hnb67 := NB1090_1098.out
                have hnc67 := NB1098_1090.out
                have hcz68_0 : wc.cell? ⟨gb1090, 0, none⟩ = some (.int .i64 t1076) := (blk_cell BK1090.out 0).trans rfl
                have hcz68_1 : wc.cell? ⟨gb1090, 1, none⟩ = some (.int .i64 t1077) := (blk_cell BK1090.out 1).trans rfl
                have hcz68_2 : wc.cell? ⟨gb1090, 2, none⟩ = some (.slice Ao12 t1078.length co12) := (blk_cell BK1090.out 2).trans rfl
                have hfz68_0 := blk_frozen BK1090.out 0
                have hfz68_1 := blk_frozen BK1090.out 1
                have hfz68_2 := blk_frozen BK1090.out 2
                go_wp2
                go_meet
                case rel => exact ⟨_, (true), (by first | rfl | (simp; done) | (simp [*]; done)), H', ⟨by have := HJ5.out; first | omega | exact Nat.le_refl _⟩, ⟨by (with_reducible repeat (first | apply Kd.Q_alloc | apply Kd.Q_drewN | apply Kd.Q_drew)); exact HO_1091002.out⟩, ⟨by (with_reducible repeat (first | apply Kd.Q_alloc | apply Kd.Q_drewN | apply Kd.Q_drew)); exact HO_1099002.out⟩, ⟨by (with_reducible repeat (first | apply Kd.Q_alloc | apply Kd.Q_drewN | apply Kd.Q_drew)); exact HO_1106002.out⟩, ⟨by (with_reducible repeat (first | refine blk_drewN ?_ _ | refine blk_drew ?_ | refine blk_alloc ?_ _)); exact BK1090.out⟩, ⟨by (with_reducible repeat (first | refine blk_drewN ?_ _ | refine blk_drew ?_ | refine blk_alloc ?_ _)); exact BK1091.out⟩, ⟨by (with_reducible repeat (first | refine blk_drewN ?_ _ | refine blk_drew ?_ | refine blk_alloc ?_ _)); exact BK1098.out⟩, ⟨by (with_reducible repeat (first | refine blk_drewN ?_ _ | refine blk_drew ?_ | refine blk_alloc ?_ _)); exact BK1105.out⟩, ⟨by repeat (first | (with_reducible first | exact HB.out | apply below_alloc | apply pw_below_drewN | apply below_drew1 | refine below_set ?_ GE1090.out | refine below_set ?_ GE1091.out | refine below_set ?_ GE1098.out | refine below_set ?_ GE1105.out) | exact HB.out)⟩⟩
              · rw [if_neg c61] at H
                have c61b0 : decide (t1089 ≤ t1076) = false := decide_eq_false c61
                clear c61
                replace H := Option.bind_eq_some_iff.mp H
                obtain ⟨t1108, A690, H⟩ := H
                replace H : (laws_FnRecDo.j1 kj5 (!t1108) t1076 t1077 t1078 t1081 t1082 t1083 t1084 t1085 t1086 t1087 t1088 t1099 t1100 t1101) = some r := H
                have A69 := Aside0.mk A690
                clear A690
                have H' := Aside0.mk H
                clear H
                have hnb70 := NB1105_1090.out
                have hnc70 := NB1090_1105.out
                have hnb71 := NB1105_1091.out
                have hnc71 := NB1091_1105.out
                have hnb72 := NB1105_1098.out
                have hnc72 := NB1098_1105.out
                have hcz73_0 : wc.cell? ⟨gb1105, 0, none⟩ = some (.int .i64 t1099) := (blk_cell BK1105.out 0).trans rfl
                have hcz73_1 : wc.cell? ⟨gb1105, 1, none⟩ = some (.int .i64 t1100) := (blk_cell BK1105.out 1).trans rfl
                have hcz73_2 : wc.cell? ⟨gb1105, 2, none⟩ = some (.slice Ao28 t1101.length co28) := (blk_cell BK1105.out 2).trans rfl
                have hfz73_0 := blk_frozen BK1105.out 0
                have hfz73_1 := blk_frozen BK1105.out 1
                have hfz73_2 := blk_frozen BK1105.out 2
                have hnb74 := NB1090_1091.out
                have hnc74 := NB1091_1090.out
                have hnb75 := NB1090_1098.out
                have hnc75 := NB1098_1090.out
                have hcz76_0 : wc.cell? ⟨gb1090, 0, none⟩ = some (.int .i64 t1076) := (blk_cell BK1090.out 0).trans rfl
                have hcz76_1 : wc.cell? ⟨gb1090, 1, none⟩ = some (.int .i64 t1077) := (blk_cell BK1090.out 1).trans rfl
                have hcz76_2 : wc.cell? ⟨gb1090, 2, none⟩ = some (.slice Ao12 t1078.length co12) := (blk_cell BK1090.out 2).trans rfl
                have hfz76_0 := blk_frozen BK1090.out 0
                have hfz76_1 := blk_frozen BK1090.out 1
                have hfz76_2 := blk_frozen BK1090.out 2
                go_wp2_with (first | (go_at_call 25; (with_reducible refine (impl_PageOk.calls kj5 t1099 t1100 _ _ t1101 t1108 _ ?side1 ?side2 A69.out).mono ?_); (case side1 => repeat (first | exact (Kd.Q_reads' HO_1106002.out).2.2 | (with_reducible refine Kd.C_alloc ?_ _) | (with_reducible refine Kd.C_drewN ?_ _) | (with_reducible refine Kd.C_drew ?_))); (case side2 => exact (Kd.Q_reads' HO_1106002.out).2.1); rintro e w77 ⟨rfl, hb⟩; have n0_ := Aside0.mk (Kd.Q_below (by (with_reducible repeat (first | apply Kd.Q_alloc | apply Kd.Q_drewN | apply Kd.Q_drew)); exact HO_1091002.out) hb); have n1_ := Aside0.mk (Kd.Q_below (by (with_reducible repeat (first | apply Kd.Q_alloc | apply Kd.Q_drewN | apply Kd.Q_drew)); exact HO_1099002.out) hb); have n2_ := Aside0.mk (Kd.Q_below (by (with_reducible repeat (first | apply Kd.Q_alloc | apply Kd.Q_drewN | apply Kd.Q_drew)); exact HO_1106002.out) hb); have n3_ := Aside0.mk (blk_below (g := gb1090) (o := .cells #[.int .i64 t1076, .int .i64 t1077, .slice Ao12 t1078.length co12] 25 (0, 0)) (by (with_reducible repeat (first | refine blk_drewN ?_ _ | refine blk_drew ?_ | refine blk_alloc ?_ _)); exact BK1090.out) hb); have n4_ := Aside0.mk (blk_below (g := gb1091) (o := .cells #[.int .i64 t1081, .int .i64 t1082, .int .i64 t1083, .int .i64 t1084, .int .i64 t1085, .int .i64 t1086, .int .i64 t1087, .int .i64 t1088] 41 (0, 0)) (by (with_reducible repeat (first | refine blk_drewN ?_ _ | refine blk_drew ?_ | refine blk_alloc ?_ _)); exact BK1091.out) hb); have n5_ := Aside0.mk (blk_below (g := gb1098) (o := .cells #[.int .i64 t1092, .int .i64 t1093, .slice Ao19 t1094.length co19] 25 (0, 0)) (by (with_reducible repeat (first | refine blk_drewN ?_ _ | refine blk_drew ?_ | refine blk_alloc ?_ _)); exact BK1098.out) hb); have n6_ := Aside0.mk (blk_below (g := gb1105) (o := .cells #[.int .i64 t1099, .int .i64 t1100, .slice Ao28 t1101.length co28] 25 (0, 0)) (by (with_reducible repeat (first | refine blk_drewN ?_ _ | refine blk_drew ?_ | refine blk_alloc ?_ _)); exact BK1105.out) hb); have n7_ := Aside0.mk (below_step (by repeat (first | (with_reducible first | exact HB.out | apply below_alloc | apply pw_below_drewN | apply below_drew1 | refine below_set ?_ GE1090.out | refine below_set ?_ GE1091.out | refine below_set ?_ GE1098.out | refine below_set ?_ GE1105.out) | exact HB.out)) hb); clear HO_1091002; clear HO_1099002; clear HO_1106002; clear BK1090; clear BK1091; clear BK1098; clear BK1105; clear HB; have HO_1091002 := n0_; have HO_1099002 := n1_; have HO_1106002 := n2_; have BK1090 := n3_; have BK1091 := n4_; have BK1098 := n5_; have BK1105 := n6_; have HB := n7_; clear n0_ n1_ n2_ n3_ n4_ n5_ n6_ n7_; (try clear hb); (try clear hb2); (try clear hk); (try clear hi)))
                go_meet
                case rel => exact ⟨_, (!t1108), (by first | rfl | (simp; done) | (simp [*]; done)), H', ⟨by have := HJ5.out; first | omega | exact Nat.le_refl _⟩, ⟨by (with_reducible repeat (first | apply Kd.Q_alloc | apply Kd.Q_drewN | apply Kd.Q_drew)); exact HO_1091002.out⟩, ⟨by (with_reducible repeat (first | apply Kd.Q_alloc | apply Kd.Q_drewN | apply Kd.Q_drew)); exact HO_1099002.out⟩, ⟨by (with_reducible repeat (first | apply Kd.Q_alloc | apply Kd.Q_drewN | apply Kd.Q_drew)); exact HO_1106002.out⟩, ⟨by (with_reducible repeat (first | refine blk_drewN ?_ _ | refine blk_drew ?_ | refine blk_alloc ?_ _)); exact BK1090.out⟩, ⟨by (with_reducible repeat (first | refine blk_drewN ?_ _ | refine blk_drew ?_ | refine blk_alloc ?_ _)); exact BK1091.out⟩, ⟨by (with_reducible repeat (first | refine blk_drewN ?_ _ | refine blk_drew ?_ | refine blk_alloc ?_ _)); exact BK1098.out⟩, ⟨by (with_reducible repeat (first | refine blk_drewN ?_ _ | refine blk_drew ?_ | refine blk_alloc ?_ _)); exact BK1105.out⟩, ⟨by repeat (first | (with_reducible first | exact HB.out | apply below_alloc | apply pw_below_drewN | apply below_drew1 | refine below_set ?_ GE1090.out | refine below_set ?_ GE1091.out | refine below_set ?_ GE1098.out | refine below_set ?_ GE1105.out) | exact HB.out)⟩⟩
            · rw [if_neg c60] at H
              have c60b0 : (t1099 == t1089) = false := beq_eq_false_iff_ne.mpr c60
              have c60b1 : (t1099 != t1089) = true := bne_iff_ne.mpr c60
              (first | rw [c60b0] | (simp only [i64_w, i32_w]; rw [c60b0]) | skip)
              have H' := Aside0.mk H
              clear H
              have hnb78 := NB1105_1090.out
              have hnc78 := NB1090_1105.out
              have hnb79 := NB1105_1091.out
              have hnc79 := NB1091_1105.out
              have hnb80 := NB1105_1098.out
              have hnc80 := NB1098_1105.out
              have hcz81_0 : wc.cell? ⟨gb1105, 0, none⟩ = some (.int .i64 t1099) := (blk_cell BK1105.out 0).trans rfl
              have hcz81_1 : wc.cell? ⟨gb1105, 1, none⟩ = some (.int .i64 t1100) := (blk_cell BK1105.out 1).trans rfl
              have hcz81_2 : wc.cell? ⟨gb1105, 2, none⟩ = some (.slice Ao28 t1101.length co28) := (blk_cell BK1105.out 2).trans rfl
              have hfz81_0 := blk_frozen BK1105.out 0
              have hfz81_1 := blk_frozen BK1105.out 1
              have hfz81_2 := blk_frozen BK1105.out 2
              go_wp2
              go_meet
              case rel => exact ⟨_, (true), (by first | rfl | (simp; done) | (simp [*]; done)), H', ⟨by have := HJ5.out; first | omega | exact Nat.le_refl _⟩, ⟨by (with_reducible repeat (first | apply Kd.Q_alloc | apply Kd.Q_drewN | apply Kd.Q_drew)); exact HO_1091002.out⟩, ⟨by (with_reducible repeat (first | apply Kd.Q_alloc | apply Kd.Q_drewN | apply Kd.Q_drew)); exact HO_1099002.out⟩, ⟨by (with_reducible repeat (first | apply Kd.Q_alloc | apply Kd.Q_drewN | apply Kd.Q_drew)); exact HO_1106002.out⟩, ⟨by (with_reducible repeat (first | refine blk_drewN ?_ _ | refine blk_drew ?_ | refine blk_alloc ?_ _)); exact BK1090.out⟩, ⟨by (with_reducible repeat (first | refine blk_drewN ?_ _ | refine blk_drew ?_ | refine blk_alloc ?_ _)); exact BK1091.out⟩, ⟨by (with_reducible repeat (first | refine blk_drewN ?_ _ | refine blk_drew ?_ | refine blk_alloc ?_ _)); exact BK1098.out⟩, ⟨by (with_reducible repeat (first | refine blk_drewN ?_ _ | refine blk_drew ?_ | refine blk_alloc ?_ _)); exact BK1105.out⟩, ⟨by repeat (first | (with_reducible first | exact HB.out | apply below_alloc | apply pw_below_drewN | apply below_drew1 | refine below_set ?_ GE1090.out | refine below_set ?_ GE1091.out | refine below_set ?_ GE1098.out | refine below_set ?_ GE1105.out) | exact HB.out)⟩⟩
          case rest =>
            clear HC59
            try clear c1
            try clear c2
            try clear c2b0
            try clear c2b1
            try clear p2
            try clear c3
            try clear c4
            try clear c5
            try clear c6
            try clear c7
            try clear c8
            try clear c10
            try clear c14
            try clear c16
            try clear c17
            try clear c24
            try clear c25
            try clear c26
            try clear c29
            try clear c29b0
            try clear c29b1
            try clear c29b2
            try clear c31
            try clear c32
            try clear c33
            try clear c34
            try clear c36
            try clear c37
            try clear c40
            try clear c41
            try clear c42
            try clear c44
            try clear c45
            try clear c48
            try clear c49
            try clear c49b0
            try clear c49b1
            try clear c49b2
            try clear c50
            try clear c51
            try clear c52
            try clear c53
            try clear c55
            try clear c56
            try clear c60
            try clear c60b0
            try clear c60b1
            try clear c61
            try clear c61b0
            try clear c62
            try clear c63
            try clear c64
            try clear c66
            try clear c67
            try clear c70
            try clear c71
            try clear c72
            try clear c74
            try clear c75
            try clear c78
            try clear c79
            try clear c80
            try clear hcz11_0
            try clear hcz11_1
            try clear hcz11_2
            try clear hcz13_0
            try clear hcz13_1
            try clear hcz13_2
            try clear hcz13_3
            try clear hcz13_4
            try clear hcz13_5
            try clear hcz13_6
            try clear hcz13_7
            try clear hcz18_0
            try clear hcz18_1
            try clear hcz18_2
            try clear hcz20_0
            try clear hcz20_1
            try clear hcz20_2
            try clear hcz21_0
            try clear hcz21_1
            try clear hcz21_2
            try clear hcz21_3
            try clear hcz21_4
            try clear hcz21_5
            try clear hcz21_6
            try clear hcz21_7
            try clear hcz27_0
            try clear hcz27_1
            try clear hcz27_2
            try clear hcz35_0
            try clear hcz35_1
            try clear hcz35_2
            try clear hcz38_0
            try clear hcz38_1
            try clear hcz38_2
            try clear hcz43_0
            try clear hcz43_1
            try clear hcz43_2
            try clear hcz46_0
            try clear hcz46_1
            try clear hcz46_2
            try clear hcz54_0
            try clear hcz54_1
            try clear hcz54_2
            try clear hcz57_0
            try clear hcz57_1
            try clear hcz57_2
            try clear hcz65_0
            try clear hcz65_1
            try clear hcz65_2
            try clear hcz68_0
            try clear hcz68_1
            try clear hcz68_2
            try clear hcz73_0
            try clear hcz73_1
            try clear hcz73_2
            try clear hcz76_0
            try clear hcz76_1
            try clear hcz76_2
            try clear hcz81_0
            try clear hcz81_1
            try clear hcz81_2
            try clear hfz11_0
            try clear hfz11_1
            try clear hfz11_2
            try clear hfz13_0
            try clear hfz13_1
            try clear hfz13_2
            try clear hfz13_3
            try clear hfz13_4
            try clear hfz13_5
            try clear hfz13_6
            try clear hfz13_7
            try clear hfz18_0
            try clear hfz18_1
            try clear hfz18_2
            try clear hfz20_0
            try clear hfz20_1
            try clear hfz20_2
            try clear hfz21_0
            try clear hfz21_1
            try clear hfz21_2
            try clear hfz21_3
            try clear hfz21_4
            try clear hfz21_5
            try clear hfz21_6
            try clear hfz21_7
            try clear hfz27_0
            try clear hfz27_1
            try clear hfz27_2
            try clear hfz35_0
            try clear hfz35_1
            try clear hfz35_2
            try clear hfz38_0
            try clear hfz38_1
            try clear hfz38_2
            try clear hfz43_0
            try clear hfz43_1
            try clear hfz43_2
            try clear hfz46_0
            try clear hfz46_1
            try clear hfz46_2
            try clear hfz54_0
            try clear hfz54_1
            try clear hfz54_2
            try clear hfz57_0
            try clear hfz57_1
            try clear hfz57_2
            try clear hfz65_0
            try clear hfz65_1
            try clear hfz65_2
            try clear hfz68_0
            try clear hfz68_1
            try clear hfz68_2
            try clear hfz73_0
            try clear hfz73_1
            try clear hfz73_2
            try clear hfz76_0
            try clear hfz76_1
            try clear hfz76_2
            try clear hfz81_0
            try clear hfz81_1
            try clear hfz81_2
            try clear p2
            obtain ⟨kq, x69_58, rfl, HA, HJ58, HO_1091002, HO_1099002, HO_1106002, BK1090, BK1091, BK1098, BK1105, HB⟩ := hcut
            cases kq with
            | zero => exact absurd HA.out (by simp [laws_FnRecDo.j1])
            | succ kj58 =>
              have H := HA.out
              clear HA
              simp only [laws_FnRecDo.j1] at H
              by_cases c82 : x69_58 = true
              · subst c82
                have H1 : (some false) = some r := by rw [if_pos rfl] at H; exact H
                clear H
                have H := H1
                clear H1
                obtain rfl := Option.some.inj H
                exact absurd hT_.out (by simp)
              · replace c82 := Bool.eq_false_iff.mpr c82
                subst c82
                have H1 : (if t1084 < 0 then (if t1100 = t1086 then (if t1086 = 0 then ((impl_PageEmpty.f kj58 t1099 t1100 t1101).bind fun t1109 => (if t1109 = true then (some true) else (if t1086 > 0 then ((laws_ltInts.f kj58 t1101 t1078).bind fun t1110 => (some t1110)) else (some false)))) else (if t1086 > 0 then ((laws_ltInts.f kj58 t1101 t1078).bind fun t1111 => (some t1111)) else (some false))) else (some false)) else ((some (([] : List Int) : List Int)).bind fun y1113 => (if y1113.length + t1101.length < 17592186044416 then ((some (y1113 ++ t1101 : List Int)).bind fun y1116 => (if 0 ≤ t1084 then (if t1084 < (t1078.length : Int) then (if t1084 < (y1116.length : Int) then (if t1084 < (t1101.length : Int) then (if (rd t1101 t1084) = t1086 then ((laws_ltHas.f kj58 t1099 t1100 (y1116.set (t1084 : Int).toNat (rd t1078 t1084)) t1076 t1077 t1078).bind fun t1122 => (some t1122)) else (some false)) else (none)) else (none)) else (none)) else (none))) else (none)))) = some r := by rw [if_neg (show ¬ (false = true) by decide)] at H; exact H
                clear H
                have H := H1
                clear H1
                by_cases c83 : t1084 < 0
                · rw [if_pos c83] at H
                  have c83b0 : decide (t1084 < 0) = true := decide_eq_true c83
                  clear c83
                  by_cases c84 : t1100 = t1086
                  · rw [if_pos c84] at H
                    have c84b0 : (t1100 == t1086) = true := beq_iff_eq.mpr c84
                    have c84b1 : (t1100 != t1086) = false := bne_eq_false_iff_eq.mpr c84
                    clear c84
                    by_cases c85 : t1086 = 0
                    · rw [if_pos c85] at H
                      have c85b0 : (t1086 == 0) = true := beq_iff_eq.mpr c85
                      have c85b1 : (t1086 != 0) = false := bne_eq_false_iff_eq.mpr c85
                      clear c85
                      replace H := Option.bind_eq_some_iff.mp H
                      obtain ⟨t1109, A860, H⟩ := H
                      replace H : (if t1109 = true then (some true) else (if t1086 > 0 then ((laws_ltInts.f kj58 t1101 t1078).bind fun t1110 => (some t1110)) else (some false))) = some r := H
                      have A86 := Aside0.mk A860
                      clear A860
                      by_cases c87 : t1109 = true
                      · subst c87
                        have H1 : (some true) = some r := by rw [if_pos rfl] at H; exact H
                        clear H
                        have H := H1
                        clear H1
                        obtain rfl := Option.some.inj H
                        have hnb88 := NB1091_1090.out
                        have hnc88 := NB1090_1091.out
                        have hnb89 := NB1091_1098.out
                        have hnc89 := NB1098_1091.out
                        have hnb90 := NB1091_1105.out
                        have hnc90 := NB1105_1091.out
                        have hcz91_0 : wc.cell? ⟨gb1091, 0, none⟩ = some (.int .i64 t1081) := (blk_cell BK1091.out 0).trans rfl
                        have hcz91_1 : wc.cell? ⟨gb1091, 1, none⟩ = some (.int .i64 t1082) := (blk_cell BK1091.out 1).trans rfl
                        have hcz91_2 : wc.cell? ⟨gb1091, 2, none⟩ = some (.int .i64 t1083) := (blk_cell BK1091.out 2).trans rfl
                        have hcz91_3 : wc.cell? ⟨gb1091, 3, none⟩ = some (.int .i64 t1084) := (blk_cell BK1091.out 3).trans rfl
                        have hcz91_4 : wc.cell? ⟨gb1091, 4, none⟩ = some (.int .i64 t1085) := (blk_cell BK1091.out 4).trans rfl
                        have hcz91_5 : wc.cell? ⟨gb1091, 5, none⟩ = some (.int .i64 t1086) := (blk_cell BK1091.out 5).trans rfl
                        have hcz91_6 : wc.cell? ⟨gb1091, 6, none⟩ = some (.int .i64 t1087) := (blk_cell BK1091.out 6).trans rfl
                        have hcz91_7 : wc.cell? ⟨gb1091, 7, none⟩ = some (.int .i64 t1088) := (blk_cell BK1091.out 7).trans rfl
                        have hfz91_0 := blk_frozen BK1091.out 0
                        have hfz91_1 := blk_frozen BK1091.out 1
                        have hfz91_2 := blk_frozen BK1091.out 2
                        have hfz91_3 := blk_frozen BK1091.out 3
                        have hfz91_4 := blk_frozen BK1091.out 4
                        have hfz91_5 := blk_frozen BK1091.out 5
                        have hfz91_6 := blk_frozen BK1091.out 6
                        have hfz91_7 := blk_frozen BK1091.out 7
                        have hnb92 := NB1105_1090.out
                        have hnc92 := NB1090_1105.out
                        have hnb93 := NB1105_1098.out
                        have hnc93 := NB1098_1105.out
                        have hcz94_0 : wc.cell? ⟨gb1105, 0, none⟩ = some (.int .i64 t1099) := (blk_cell BK1105.out 0).trans rfl
                        have hcz94_1 : wc.cell? ⟨gb1105, 1, none⟩ = some (.int .i64 t1100) := (blk_cell BK1105.out 1).trans rfl
                        have hcz94_2 : wc.cell? ⟨gb1105, 2, none⟩ = some (.slice Ao28 t1101.length co28) := (blk_cell BK1105.out 2).trans rfl
                        have hfz94_0 := blk_frozen BK1105.out 0
                        have hfz94_1 := blk_frozen BK1105.out 1
                        have hfz94_2 := blk_frozen BK1105.out 2
                        go_wp2_with (first | (go_at_call 27; (with_reducible refine (impl_PageEmpty.calls kj58 t1099 t1100 _ _ t1101 true _ ?side1 ?side2 A86.out).mono ?_); (case side1 => repeat (first | exact (Kd.Q_reads' HO_1106002.out).2.2 | (with_reducible refine Kd.C_alloc ?_ _) | (with_reducible refine Kd.C_drewN ?_ _) | (with_reducible refine Kd.C_drew ?_))); (case side2 => exact (Kd.Q_reads' HO_1106002.out).2.1); rintro e w95 ⟨rfl, hb⟩; have n0_ := Aside0.mk (Kd.Q_below (by (with_reducible repeat (first | apply Kd.Q_alloc | apply Kd.Q_drewN | apply Kd.Q_drew)); exact HO_1091002.out) hb); have n1_ := Aside0.mk (Kd.Q_below (by (with_reducible repeat (first | apply Kd.Q_alloc | apply Kd.Q_drewN | apply Kd.Q_drew)); exact HO_1099002.out) hb); have n2_ := Aside0.mk (Kd.Q_below (by (with_reducible repeat (first | apply Kd.Q_alloc | apply Kd.Q_drewN | apply Kd.Q_drew)); exact HO_1106002.out) hb); have n3_ := Aside0.mk (blk_below (g := gb1090) (o := .cells #[.int .i64 t1076, .int .i64 t1077, .slice Ao12 t1078.length co12] 25 (0, 0)) (by (with_reducible repeat (first | refine blk_drewN ?_ _ | refine blk_drew ?_ | refine blk_alloc ?_ _)); exact BK1090.out) hb); have n4_ := Aside0.mk (blk_below (g := gb1091) (o := .cells #[.int .i64 t1081, .int .i64 t1082, .int .i64 t1083, .int .i64 t1084, .int .i64 t1085, .int .i64 t1086, .int .i64 t1087, .int .i64 t1088] 41 (0, 0)) (by (with_reducible repeat (first | refine blk_drewN ?_ _ | refine blk_drew ?_ | refine blk_alloc ?_ _)); exact BK1091.out) hb); have n5_ := Aside0.mk (blk_below (g := gb1098) (o := .cells #[.int .i64 t1092, .int .i64 t1093, .slice Ao19 t1094.length co19] 25 (0, 0)) (by (with_reducible repeat (first | refine blk_drewN ?_ _ | refine blk_drew ?_ | refine blk_alloc ?_ _)); exact BK1098.out) hb); have n6_ := Aside0.mk (blk_below (g := gb1105) (o := .cells #[.int .i64 t1099, .int .i64 t1100, .slice Ao28 t1101.length co28] 25 (0, 0)) (by (with_reducible repeat (first | refine blk_drewN ?_ _ | refine blk_drew ?_ | refine blk_alloc ?_ _)); exact BK1105.out) hb); have n7_ := Aside0.mk (below_step (by repeat (first | (with_reducible first | exact HB.out | apply below_alloc | apply pw_below_drewN | apply below_drew1 | refine below_set ?_ GE1090.out | refine below_set ?_ GE1091.out | refine below_set ?_ GE1098.out | refine below_set ?_ GE1105.out) | exact HB.out)) hb); clear HO_1091002; clear HO_1099002; clear HO_1106002; clear BK1090; clear BK1091; clear BK1098; clear BK1105; clear HB; have HO_1091002 := n0_; have HO_1099002 := n1_; have HO_1106002 := n2_; have BK1090 := n3_; have BK1091 := n4_; have BK1098 := n5_; have BK1105 := n6_; have HB := n7_; clear n0_ n1_ n2_ n3_ n4_ n5_ n6_ n7_; (try clear hb); (try clear hb2); (try clear hk); (try clear hi)))
                        go_ret
                        exact ⟨by first | rfl | (simp [errW_none, errW_some] <;> rfl) | (simp [*, errW_none, errW_some] <;> rfl), by repeat (first | (with_reducible first | exact HB.out | apply below_alloc | apply pw_below_drewN | apply below_drew1 | refine below_set ?_ GE1090.out | refine below_set ?_ GE1091.out | refine below_set ?_ GE1098.out | refine below_set ?_ GE1105.out) | exact HB.out)⟩
                      · replace c87 := Bool.eq_false_iff.mpr c87
                        subst c87
                        have H1 : (if t1086 > 0 then ((laws_ltInts.f kj58 t1101 t1078).bind fun t1110 => (some t1110)) else (some false)) = some r := by rw [if_neg (show ¬ (false = true) by decide)] at H; exact H
                        clear H
                        have H := H1
                        clear H1
                        by_cases c96 : t1086 > 0
                        · rw [if_pos c96] at H
                          have c96b0 : decide (0 < t1086) = true := decide_eq_true c96
                          clear c96
                          replace H := Option.bind_eq_some_iff.mp H
                          obtain ⟨t1110, A970, H⟩ := H
                          replace H : (some t1110) = some r := H
                          have A97 := Aside0.mk A970
                          clear A970
                          obtain rfl := Option.some.inj H
                          have hnb98 := NB1091_1090.out
                          have hnc98 := NB1090_1091.out
                          have hnb99 := NB1091_1098.out
                          have hnc99 := NB1098_1091.out
                          have hnb100 := NB1091_1105.out
                          have hnc100 := NB1105_1091.out
                          have hcz101_0 : wc.cell? ⟨gb1091, 0, none⟩ = some (.int .i64 t1081) := (blk_cell BK1091.out 0).trans rfl
                          have hcz101_1 : wc.cell? ⟨gb1091, 1, none⟩ = some (.int .i64 t1082) := (blk_cell BK1091.out 1).trans rfl
                          have hcz101_2 : wc.cell? ⟨gb1091, 2, none⟩ = some (.int .i64 t1083) := (blk_cell BK1091.out 2).trans rfl
                          have hcz101_3 : wc.cell? ⟨gb1091, 3, none⟩ = some (.int .i64 t1084) := (blk_cell BK1091.out 3).trans rfl
                          have hcz101_4 : wc.cell? ⟨gb1091, 4, none⟩ = some (.int .i64 t1085) := (blk_cell BK1091.out 4).trans rfl
                          have hcz101_5 : wc.cell? ⟨gb1091, 5, none⟩ = some (.int .i64 t1086) := (blk_cell BK1091.out 5).trans rfl
                          have hcz101_6 : wc.cell? ⟨gb1091, 6, none⟩ = some (.int .i64 t1087) := (blk_cell BK1091.out 6).trans rfl
                          have hcz101_7 : wc.cell? ⟨gb1091, 7, none⟩ = some (.int .i64 t1088) := (blk_cell BK1091.out 7).trans rfl
                          have hfz101_0 := blk_frozen BK1091.out 0
                          have hfz101_1 := blk_frozen BK1091.out 1
                          have hfz101_2 := blk_frozen BK1091.out 2
                          have hfz101_3 := blk_frozen BK1091.out 3
                          have hfz101_4 := blk_frozen BK1091.out 4
                          have hfz101_5 := blk_frozen BK1091.out 5
                          have hfz101_6 := blk_frozen BK1091.out 6
                          have hfz101_7 := blk_frozen BK1091.out 7
                          have hnb102 := NB1105_1090.out
                          have hnc102 := NB1090_1105.out
                          have hnb103 := NB1105_1098.out
                          have hnc103 := NB1098_1105.out
                          have hcz104_0 : wc.cell? ⟨gb1105, 0, none⟩ = some (.int .i64 t1099) := (blk_cell BK1105.out 0).trans rfl
                          have hcz104_1 : wc.cell? ⟨gb1105, 1, none⟩ = some (.int .i64 t1100) := (blk_cell BK1105.out 1).trans rfl
                          have hcz104_2 : wc.cell? ⟨gb1105, 2, none⟩ = some (.slice Ao28 t1101.length co28) := (blk_cell BK1105.out 2).trans rfl
                          have hfz104_0 := blk_frozen BK1105.out 0
                          have hfz104_1 := blk_frozen BK1105.out 1
                          have hfz104_2 := blk_frozen BK1105.out 2
                          go_wp2_with (first | (go_at_call 27; (with_reducible refine (impl_PageEmpty.calls kj58 t1099 t1100 _ _ t1101 false _ ?side1 ?side2 A86.out).mono ?_); (case side1 => repeat (first | exact (Kd.Q_reads' HO_1106002.out).2.2 | (with_reducible refine Kd.C_alloc ?_ _) | (with_reducible refine Kd.C_drewN ?_ _) | (with_reducible refine Kd.C_drew ?_))); (case side2 => exact (Kd.Q_reads' HO_1106002.out).2.1); rintro e w105 ⟨rfl, hb⟩; have n0_ := Aside0.mk (Kd.Q_below (by (with_reducible repeat (first | apply Kd.Q_alloc | apply Kd.Q_drewN | apply Kd.Q_drew)); exact HO_1091002.out) hb); have n1_ := Aside0.mk (Kd.Q_below (by (with_reducible repeat (first | apply Kd.Q_alloc | apply Kd.Q_drewN | apply Kd.Q_drew)); exact HO_1099002.out) hb); have n2_ := Aside0.mk (Kd.Q_below (by (with_reducible repeat (first | apply Kd.Q_alloc | apply Kd.Q_drewN | apply Kd.Q_drew)); exact HO_1106002.out) hb); have n3_ := Aside0.mk (blk_below (g := gb1090) (o := .cells #[.int .i64 t1076, .int .i64 t1077, .slice Ao12 t1078.length co12] 25 (0, 0)) (by (with_reducible repeat (first | refine blk_drewN ?_ _ | refine blk_drew ?_ | refine blk_alloc ?_ _)); exact BK1090.out) hb); have n4_ := Aside0.mk (blk_below (g := gb1091) (o := .cells #[.int .i64 t1081, .int .i64 t1082, .int .i64 t1083, .int .i64 t1084, .int .i64 t1085, .int .i64 t1086, .int .i64 t1087, .int .i64 t1088] 41 (0, 0)) (by (with_reducible repeat (first | refine blk_drewN ?_ _ | refine blk_drew ?_ | refine blk_alloc ?_ _)); exact BK1091.out) hb); have n5_ := Aside0.mk (blk_below (g := gb1098) (o := .cells #[.int .i64 t1092, .int .i64 t1093, .slice Ao19 t1094.length co19] 25 (0, 0)) (by (with_reducible repeat (first | refine blk_drewN ?_ _ | refine blk_drew ?_ | refine blk_alloc ?_ _)); exact BK1098.out) hb); have n6_ := Aside0.mk (blk_below (g := gb1105) (o := .cells #[.int .i64 t1099, .int .i64 t1100, .slice Ao28 t1101.length co28] 25 (0, 0)) (by (with_reducible repeat (first | refine blk_drewN ?_ _ | refine blk_drew ?_ | refine blk_alloc ?_ _)); exact BK1105.out) hb); have n7_ := Aside0.mk (below_step (by repeat (first | (with_reducible first | exact HB.out | apply below_alloc | apply pw_below_drewN | apply below_drew1 | refine below_set ?_ GE1090.out | refine below_set ?_ GE1091.out | refine below_set ?_ GE1098.out | refine below_set ?_ GE1105.out) | exact HB.out)) hb); clear HO_1091002; clear HO_1099002; clear HO_1106002; clear BK1090; clear BK1091; clear BK1098; clear BK1105; clear HB; have HO_1091002 := n0_; have HO_1099002 := n1_; have HO_1106002 := n2_; have BK1090 := n3_; have BK1091 := n4_; have BK1098 := n5_; have BK1105 := n6_; have HB := n7_; clear n0_ n1_ n2_ n3_ n4_ n5_ n6_ n7_; (try clear hb); (try clear hb2); (try clear hk); (try clear hi); have hcz106_0 : w105.cell? ⟨gb1091, 0, none⟩ = some (.int .i64 t1081) := (blk_cell BK1091.out 0).trans rfl; have hcz106_1 : w105.cell? ⟨gb1091, 1, none⟩ = some (.int .i64 t1082) := (blk_cell BK1091.out 1).trans rfl; have hcz106_2 : w105.cell? ⟨gb1091, 2, none⟩ = some (.int .i64 t1083) := (blk_cell BK1091.out 2).trans rfl; have hcz106_3 : w105.cell? ⟨gb1091, 3, none⟩ = some (.int .i64 t1084) := (blk_cell BK1091.out 3).trans rfl; have hcz106_4 : w105.cell? ⟨gb1091, 4, none⟩ = some (.int .i64 t1085) := (blk_cell BK1091.out 4).trans rfl; have hcz106_5 : w105.cell? ⟨gb1091, 5, none⟩ = some (.int .i64 t1086) := (blk_cell BK1091.out 5).trans rfl; have hcz106_6 : w105.cell? ⟨gb1091, 6, none⟩ = some (.int .i64 t1087) := (blk_cell BK1091.out 6).trans rfl; have hcz106_7 : w105.cell? ⟨gb1091, 7, none⟩ = some (.int .i64 t1088) := (blk_cell BK1091.out 7).trans rfl; have hfz106_0 := blk_frozen BK1091.out 0; have hfz106_1 := blk_frozen BK1091.out 1; have hfz106_2 := blk_frozen BK1091.out 2; have hfz106_3 := blk_frozen BK1091.out 3; have hfz106_4 := blk_frozen BK1091.out 4; have hfz106_5 := blk_frozen BK1091.out 5; have hfz106_6 := blk_frozen BK1091.out 6; have hfz106_7 := blk_frozen BK1091.out 7; have hcz107_0 : w105.cell? ⟨gb1105, 0, none⟩ = some (.int .i64 t1099) := (blk_cell BK1105.out 0).trans rfl; have hcz107_1 : w105.cell? ⟨gb1105, 1, none⟩ = some (.int .i64 t1100) := (blk_cell BK1105.out 1).trans rfl; have hcz107_2 : w105.cell? ⟨gb1105, 2, none⟩ = some (.slice Ao28 t1101.length co28) := (blk_cell BK1105.out 2).trans rfl; have hfz107_0 := blk_frozen BK1105.out 0; have hfz107_1 := blk_frozen BK1105.out 1; have hfz107_2 := blk_frozen BK1105.out 2; have hnb108 := NB1090_1098.out; have hnc108 := NB1098_1090.out; have hcz109_0 : w105.cell? ⟨gb1090, 0, none⟩ = some (.int .i64 t1076) := (blk_cell BK1090.out 0).trans rfl; have hcz109_1 : w105.cell? ⟨gb1090, 1, none⟩ = some (.int .i64 t1077) := (blk_cell BK1090.out 1).trans rfl; have hcz109_2 : w105.cell? ⟨gb1090, 2, none⟩ = some (.slice Ao12 t1078.length co12) := (blk_cell BK1090.out 2).trans rfl; have hfz109_0 := blk_frozen BK1090.out 0; have hfz109_1 := blk_frozen BK1090.out 1; have hfz109_2 := blk_frozen BK1090.out 2) | (go_at_call 64; (with_reducible refine (laws_ltInts.calls kj58 _ _ t1101 _ _ t1078 t1110 _ ?side1 ?side2 ?side3 ?side4 A97.out).mono ?_); (case side1 => repeat (first | exact (Kd.Q_reads' HO_1106002.out).2.2 | (with_reducible refine Kd.C_alloc ?_ _) | (with_reducible refine Kd.C_drewN ?_ _) | (with_reducible refine Kd.C_drew ?_))); (case side2 => exact (Kd.Q_reads' HO_1106002.out).2.1); (case side3 => repeat (first | exact (Kd.Q_reads' HO_1091002.out).2.2 | (with_reducible refine Kd.C_alloc ?_ _) | (with_reducible refine Kd.C_drewN ?_ _) | (with_reducible refine Kd.C_drew ?_))); (case side4 => exact (Kd.Q_reads' HO_1091002.out).2.1); rintro e w' ⟨rfl, ⟨nd, rfl⟩⟩))
                          go_ret
                          exact ⟨by first | rfl | (simp [errW_none, errW_some] <;> rfl) | (simp [*, errW_none, errW_some] <;> rfl), by repeat (first | (with_reducible first | exact HB.out | apply below_alloc | apply pw_below_drewN | apply below_drew1 | refine below_set ?_ GE1090.out | refine below_set ?_ GE1091.out | refine below_set ?_ GE1098.out | refine below_set ?_ GE1105.out) | exact HB.out)⟩
                        · rw [if_neg c96] at H
                          have c96b0 : decide (0 < t1086) = false := decide_eq_false c96
                          clear c96
                          obtain rfl := Option.some.inj H
                          exact absurd hT_.out (by simp)
                    · rw [if_neg c85] at H
                      have c85b0 : (t1086 == 0) = false := beq_eq_false_iff_ne.mpr c85
                      have c85b1 : (t1086 != 0) = true := bne_iff_ne.mpr c85
                      by_cases c119 : t1086 > 0
                      · rw [if_pos c119] at H
                        have c119b0 : decide (0 < t1086) = true := decide_eq_true c119
                        clear c119
                        replace H := Option.bind_eq_some_iff.mp H
                        obtain ⟨t1111, A1200, H⟩ := H
                        replace H : (some t1111) = some r := H
                        have A120 := Aside0.mk A1200
                        clear A1200
                        obtain rfl := Option.some.inj H
                        have hnb121 := NB1091_1090.out
                        have hnc121 := NB1090_1091.out
                        have hnb122 := NB1091_1098.out
                        have hnc122 := NB1098_1091.out
                        have hnb123 := NB1091_1105.out
                        have hnc123 := NB1105_1091.out
                        have hcz124_0 : wc.cell? ⟨gb1091, 0, none⟩ = some (.int .i64 t1081) := (blk_cell BK1091.out 0).trans rfl
                        have hcz124_1 : wc.cell? ⟨gb1091, 1, none⟩ = some (.int .i64 t1082) := (blk_cell BK1091.out 1).trans rfl
                        have hcz124_2 : wc.cell? ⟨gb1091, 2, none⟩ = some (.int .i64 t1083) := (blk_cell BK1091.out 2).trans rfl
                        have hcz124_3 : wc.cell? ⟨gb1091, 3, none⟩ = some (.int .i64 t1084) := (blk_cell BK1091.out 3).trans rfl
                        have hcz124_4 : wc.cell? ⟨gb1091, 4, none⟩ = some (.int .i64 t1085) := (blk_cell BK1091.out 4).trans rfl
                        have hcz124_5 : wc.cell? ⟨gb1091, 5, none⟩ = some (.int .i64 t1086) := (blk_cell BK1091.out 5).trans rfl
                        have hcz124_6 : wc.cell? ⟨gb1091, 6, none⟩ = some (.int .i64 t1087) := (blk_cell BK1091.out 6).trans rfl
                        have hcz124_7 : wc.cell? ⟨gb1091, 7, none⟩ = some (.int .i64 t1088) := (blk_cell BK1091.out 7).trans rfl
                        have hfz124_0 := blk_frozen BK1091.out 0
                        have hfz124_1 := blk_frozen BK1091.out 1
                        have hfz124_2 := blk_frozen BK1091.out 2
                        have hfz124_3 := blk_frozen BK1091.out 3
                        have hfz124_4 := blk_frozen BK1091.out 4
                        have hfz124_5 := blk_frozen BK1091.out 5
                        have hfz124_6 := blk_frozen BK1091.out 6
                        have hfz124_7 := blk_frozen BK1091.out 7
                        have hnb125 := NB1105_1090.out
                        have hnc125 := NB1090_1105.out
                        have hnb126 := NB1105_1098.out
                        have hnc126 := NB1098_1105.out
                        have hcz127_0 : wc.cell? ⟨gb1105, 0, none⟩ = some (.int .i64 t1099) := (blk_cell BK1105.out 0).trans rfl
                        have hcz127_1 : wc.cell? ⟨gb1105, 1, none⟩ = some (.int .i64 t1100) := (blk_cell BK1105.out 1).trans rfl
                        have hcz127_2 : wc.cell? ⟨gb1105, 2, none⟩ = some (.slice Ao28 t1101.length co28) := (blk_cell BK1105.out 2).trans rfl
                        have hfz127_0 := blk_frozen BK1105.out 0
                        have hfz127_1 := blk_frozen BK1105.out 1
                        have hfz127_2 := blk_frozen BK1105.out 2
                        have hnb128 := NB1090_1098.out
                        have hnc128 := NB1098_1090.out
                        have hcz129_0 : wc.cell? ⟨gb1090, 0, none⟩ = some (.int .i64 t1076) := (blk_cell BK1090.out 0).trans rfl
                        have hcz129_1 : wc.cell? ⟨gb1090, 1, none⟩ = some (.int .i64 t1077) := (blk_cell BK1090.out 1).trans rfl
                        have hcz129_2 : wc.cell? ⟨gb1090, 2, none⟩ = some (.slice Ao12 t1078.length co12) := (blk_cell BK1090.out 2).trans rfl
                        have hfz129_0 := blk_frozen BK1090.out 0
                        have hfz129_1 := blk_frozen BK1090.out 1
                        have hfz129_2 := blk_frozen BK1090.out 2
                        go_wp2_with (first | (go_at_call 64; (with_reducible refine (laws_ltInts.calls kj58 _ _ t1101 _ _ t1078 t1111 _ ?side1 ?side2 ?side3 ?side4 A120.out).mono ?_); (case side1 => repeat (first | exact (Kd.Q_reads' HO_1106002.out).2.2 | (with_reducible refine Kd.C_alloc ?_ _) | (with_reducible refine Kd.C_drewN ?_ _) | (with_reducible refine Kd.C_drew ?_))); (case side2 => exact (Kd.Q_reads' HO_1106002.out).2.1); (case side3 => repeat (first | exact (Kd.Q_reads' HO_1091002.out).2.2 | (with_reducible refine Kd.C_alloc ?_ _) | (with_reducible refine Kd.C_drewN ?_ _) | (with_reducible refine Kd.C_drew ?_))); (case side4 => exact (Kd.Q_reads' HO_1091002.out).2.1); rintro e w' ⟨rfl, ⟨nd, rfl⟩⟩))
                        go_ret
                        exact ⟨by first | rfl | (simp [errW_none, errW_some] <;> rfl) | (simp [*, errW_none, errW_some] <;> rfl), by repeat (first | (with_reducible first | exact HB.out | apply below_alloc | apply pw_below_drewN | apply below_drew1 | refine below_set ?_ GE1090.out | refine below_set ?_ GE1091.out | refine below_set ?_ GE1098.out | refine below_set ?_ GE1105.out) | exact HB.out)⟩
                      · rw [if_neg c119] at H
                        have c119b0 : decide (0 < t1086) = false := decide_eq_false c119
                        clear c119
                        obtain rfl := Option.some.inj H
                        exact absurd hT_.out (by simp)
                  · rw [if_neg c84] at H
                    have c84b0 : (t1100 == t1086) = false := beq_eq_false_iff_ne.mpr c84
                    have c84b1 : (t1100 != t1086) = true := bne_iff_ne.mpr c84
                    obtain rfl := Option.some.inj H
                    exact absurd hT_.out (by simp)
                · rw [if_neg c83] at H
                  have c83b0 : decide (t1084 < 0) = false := decide_eq_false c83
                  clear c83
                  obtain ⟨y1113, hy1113⟩ : ∃ y_ : List Int, y_ = (([] : List Int)) := ⟨_, rfl⟩
                  replace H : (if y1113.length + t1101.length < 17592186044416 then ((some (y1113 ++ t1101 : List Int)).bind fun y1116 => (if 0 ≤ t1084 then (if t1084 < (t1078.length : Int) then (if t1084 < (y1116.length : Int) then (if t1084 < (t1101.length : Int) then (if (rd t1101 t1084) = t1086 then ((laws_ltHas.f kj58 t1099 t1100 (y1116.set (t1084 : Int).toNat (rd t1078 t1084)) t1076 t1077 t1078).bind fun t1122 => (some t1122)) else (some false)) else (none)) else (none)) else (none)) else (none))) else (none)) = some r := by first | (rw [hy1113]; with_reducible exact H) | (have H2_ := (Option.bind_some _ _).symm.trans H; rw [hy1113]; with_reducible exact H2_) | (have H2_ := (Option.bind_some _ _).symm.trans H; with_reducible exact H2_) | with_reducible exact H | (rw [hy1113]; exact H) | exact H
                  have Ny1113 := Aside0.mk hy1113
                  clear hy1113
                  by_cases c144 : y1113.length + t1101.length < 17592186044416
                  · rw [if_pos c144] at H
                    have LMc144 := Aside0.mk c144
                    clear c144
                    obtain ⟨y1116, hy1116⟩ : ∃ y_ : List Int, y_ = (y1113 ++ t1101) := ⟨_, rfl⟩
                    replace H : (if 0 ≤ t1084 then (if t1084 < (t1078.length : Int) then (if t1084 < (y1116.length : Int) then (if t1084 < (t1101.length : Int) then (if (rd t1101 t1084) = t1086 then ((laws_ltHas.f kj58 t1099 t1100 (y1116.set (t1084 : Int).toNat (rd t1078 t1084)) t1076 t1077 t1078).bind fun t1122 => (some t1122)) else (some false)) else (none)) else (none)) else (none)) else (none)) = some r := by first | (rw [hy1116]; with_reducible exact H) | (have H2_ := (Option.bind_some _ _).symm.trans H; rw [hy1116]; with_reducible exact H2_) | (have H2_ := (Option.bind_some _ _).symm.trans H; with_reducible exact H2_) | with_reducible exact H | (rw [hy1116]; exact H) | exact H
                    have Ny1116 := Aside0.mk hy1116
                    clear hy1116
                    by_cases c145 : 0 ≤ t1084
                    · rw [if_pos c145] at H
                      have c145b0 : decide (0 ≤ t1084) = true := decide_eq_true c145
                      clear c145
                      by_cases c146 : t1084 < (t1078.length : Int)
                      · rw [if_pos c146] at H
                        have c146b0 : decide (t1084 < (t1078.length : Int)) = true := decide_eq_true c146
                        clear c146
                        by_cases c147 : t1084 < (y1116.length : Int)
                        · rw [if_pos c147] at H
                          have c147b0 : decide (t1084 < (y1116.length : Int)) = true := decide_eq_true c147
                          clear c147
                          obtain ⟨y1120, hy1120⟩ : ∃ y_ : List Int, y_ = (y1116.set (t1084 : Int).toNat (rd t1078 t1084)) := ⟨_, rfl⟩
                          replace H : (if t1084 < (t1101.length : Int) then (if (rd t1101 t1084) = t1086 then ((laws_ltHas.f kj58 t1099 t1100 y1120 t1076 t1077 t1078).bind fun t1122 => (some t1122)) else (some false)) else (none)) = some r := by first | (rw [hy1120]; with_reducible exact H) | (have H2_ := (Option.bind_some _ _).symm.trans H; rw [hy1120]; with_reducible exact H2_) | (have H2_ := (Option.bind_some _ _).symm.trans H; with_reducible exact H2_) | with_reducible exact H | (rw [hy1120]; exact H) | exact H
                          have Ny1120 := Aside0.mk hy1120
                          clear hy1120
                          by_cases c149 : t1084 < (t1101.length : Int)
                          · rw [if_pos c149] at H
                            have c149b0 : decide (t1084 < (t1101.length : Int)) = true := decide_eq_true c149
                            clear c149
                            by_cases c150 : (rd t1101 t1084) = t1086
                            · rw [if_pos c150] at H
                              have c150b0 : ((rd t1101 t1084) == t1086) = true := beq_iff_eq.mpr c150
                              have c150b1 : ((rd t1101 t1084) != t1086) = false := bne_eq_false_iff_eq.mpr c150
                              clear c150
                              replace H := Option.bind_eq_some_iff.mp H
                              obtain ⟨t1122, A1510, H⟩ := H
                              replace H : (some t1122) = some r := H
                              have A151 := Aside0.mk A1510
                              clear A1510
                              obtain rfl := Option.some.inj H
                              have hnb152 := NB1091_1090.out
                              have hnc152 := NB1090_1091.out
                              have hnb153 := NB1091_1098.out
                              have hnc153 := NB1098_1091.out
                              have hnb154 := NB1091_1105.out
                              have hnc154 := NB1105_1091.out
                              have hcz155_0 : wc.cell? ⟨gb1091, 0, none⟩ = some (.int .i64 t1081) := (blk_cell BK1091.out 0).trans rfl
                              have hcz155_1 : wc.cell? ⟨gb1091, 1, none⟩ = some (.int .i64 t1082) := (blk_cell BK1091.out 1).trans rfl
                              have hcz155_2 : wc.cell? ⟨gb1091, 2, none⟩ = some (.int .i64 t1083) := (blk_cell BK1091.out 2).trans rfl
                              have hcz155_3 : wc.cell? ⟨gb1091, 3, none⟩ = some (.int .i64 t1084) := (blk_cell BK1091.out 3).trans rfl
                              have hcz155_4 : wc.cell? ⟨gb1091, 4, none⟩ = some (.int .i64 t1085) := (blk_cell BK1091.out 4).trans rfl
                              have hcz155_5 : wc.cell? ⟨gb1091, 5, none⟩ = some (.int .i64 t1086) := (blk_cell BK1091.out 5).trans rfl
                              have hcz155_6 : wc.cell? ⟨gb1091, 6, none⟩ = some (.int .i64 t1087) := (blk_cell BK1091.out 6).trans rfl
                              have hcz155_7 : wc.cell? ⟨gb1091, 7, none⟩ = some (.int .i64 t1088) := (blk_cell BK1091.out 7).trans rfl
                              have hfz155_0 := blk_frozen BK1091.out 0
                              have hfz155_1 := blk_frozen BK1091.out 1
                              have hfz155_2 := blk_frozen BK1091.out 2
                              have hfz155_3 := blk_frozen BK1091.out 3
                              have hfz155_4 := blk_frozen BK1091.out 4
                              have hfz155_5 := blk_frozen BK1091.out 5
                              have hfz155_6 := blk_frozen BK1091.out 6
                              have hfz155_7 := blk_frozen BK1091.out 7
                              have hnb156 := NB1105_1090.out
                              have hnc156 := NB1090_1105.out
                              have hnb157 := NB1105_1098.out
                              have hnc157 := NB1098_1105.out
                              have hcz158_0 : wc.cell? ⟨gb1105, 0, none⟩ = some (.int .i64 t1099) := (blk_cell BK1105.out 0).trans rfl
                              have hcz158_1 : wc.cell? ⟨gb1105, 1, none⟩ = some (.int .i64 t1100) := (blk_cell BK1105.out 1).trans rfl
                              have hcz158_2 : wc.cell? ⟨gb1105, 2, none⟩ = some (.slice Ao28 t1101.length co28) := (blk_cell BK1105.out 2).trans rfl
                              have hfz158_0 := blk_frozen BK1105.out 0
                              have hfz158_1 := blk_frozen BK1105.out 1
                              have hfz158_2 := blk_frozen BK1105.out 2
                              try go_wp2_with (first | ((with_reducible refine gate_dst (N := 10) rfl ?_); refine box_event ?hg (N := 10) ?hd (cs := #[.int .i64 0, .int .i64 0, .slice none 0 0]) (t := 25) ?hr ?_; (case hd => rfl); (case hg => rfl); (case hr => first | (go_simp; done) | (go_simp; rfl)); intro gb1112 hg w159 hbox hb; have n0_ := Aside0.mk (Kd.Q_below (by (with_reducible repeat (first | apply Kd.Q_alloc | apply Kd.Q_drewN | apply Kd.Q_drew)); exact HO_1091002.out) hb); have n1_ := Aside0.mk (Kd.Q_below (by (with_reducible repeat (first | apply Kd.Q_alloc | apply Kd.Q_drewN | apply Kd.Q_drew)); exact HO_1099002.out) hb); have n2_ := Aside0.mk (Kd.Q_below (by (with_reducible repeat (first | apply Kd.Q_alloc | apply Kd.Q_drewN | apply Kd.Q_drew)); exact HO_1106002.out) hb); have n3_ := Aside0.mk (blk_below (g := gb1090) (o := .cells #[.int .i64 t1076, .int .i64 t1077, .slice Ao12 t1078.length co12] 25 (0, 0)) (by (with_reducible repeat (first | refine blk_drewN ?_ _ | refine blk_drew ?_ | refine blk_alloc ?_ _)); exact BK1090.out) hb); have n4_ := Aside0.mk (blk_below (g := gb1091) (o := .cells #[.int .i64 t1081, .int .i64 t1082, .int .i64 t1083, .int .i64 t1084, .int .i64 t1085, .int .i64 t1086, .int .i64 t1087, .int .i64 t1088] 41 (0, 0)) (by (with_reducible repeat (first | refine blk_drewN ?_ _ | refine blk_drew ?_ | refine blk_alloc ?_ _)); exact BK1091.out) hb); have n5_ := Aside0.mk (blk_below (g := gb1098) (o := .cells #[.int .i64 t1092, .int .i64 t1093, .slice Ao19 t1094.length co19] 25 (0, 0)) (by (with_reducible repeat (first | refine blk_drewN ?_ _ | refine blk_drew ?_ | refine blk_alloc ?_ _)); exact BK1098.out) hb); have n6_ := Aside0.mk (blk_below (g := gb1105) (o := .cells #[.int .i64 t1099, .int .i64 t1100, .slice Ao28 t1101.length co28] 25 (0, 0)) (by (with_reducible repeat (first | refine blk_drewN ?_ _ | refine blk_drew ?_ | refine blk_alloc ?_ _)); exact BK1105.out) hb); have n7_ := Aside0.mk (below_step (by repeat (first | (with_reducible first | exact HB.out | apply below_alloc | apply pw_below_drewN | apply below_drew1 | refine below_set ?_ GE1090.out | refine below_set ?_ GE1091.out | refine below_set ?_ GE1098.out | refine below_set ?_ GE1105.out) | exact HB.out)) hb); have n8_ := Aside0.mk (hbox); have n9_ := Aside0.mk ((by rw [hg]; exact (below_size (by repeat (first | (with_reducible first | exact HB.out | apply below_alloc | apply pw_below_drewN | apply below_drew1 | refine below_set ?_ GE1090.out | refine below_set ?_ GE1091.out | refine below_set ?_ GE1098.out | refine below_set ?_ GE1105.out) | exact HB.out))) : w.heap.size ≤ gb1112)); have n10_ := Aside0.mk ((by rw [hg]; exact (below_size (by repeat (first | (with_reducible first | exact HB.out | apply below_alloc | apply pw_below_drewN | apply below_drew1 | refine below_set ?_ GE1090.out | refine below_set ?_ GE1091.out | refine below_set ?_ GE1098.out | refine below_set ?_ GE1105.out) | exact HB.out))) : w.heap.size ≤ gb1112)); have n11_ := Aside0.mk ((by rw [hg]; exact Nat.ne_of_lt (blk_lt (g := gb1090) (o := .cells #[.int .i64 t1076, .int .i64 t1077, .slice Ao12 t1078.length co12] 25 (0, 0)) (by (with_reducible repeat (first | refine blk_drewN ?_ _ | refine blk_drew ?_ | refine blk_alloc ?_ _)); exact BK1090.out)) : gb1090 ≠ gb1112)); have n12_ := Aside0.mk ((by rw [hg]; exact Nat.ne_of_gt (blk_lt (g := gb1090) (o := .cells #[.int .i64 t1076, .int .i64 t1077, .slice Ao12 t1078.length co12] 25 (0, 0)) (by (with_reducible repeat (first | refine blk_drewN ?_ _ | refine blk_drew ?_ | refine blk_alloc ?_ _)); exact BK1090.out)) : gb1112 ≠ gb1090)); have n13_ := Aside0.mk ((by rw [hg]; exact Nat.ne_of_lt (blk_lt (g := gb1091) (o := .cells #[.int .i64 t1081, .int .i64 t1082, .int .i64 t1083, .int .i64 t1084, .int .i64 t1085, .int .i64 t1086, .int .i64 t1087, .int .i64 t1088] 41 (0, 0)) (by (with_reducible repeat (first | refine blk_drewN ?_ _ | refine blk_drew ?_ | refine blk_alloc ?_ _)); exact BK1091.out)) : gb1091 ≠ gb1112)); have n14_ := Aside0.mk ((by rw [hg]; exact Nat.ne_of_gt (blk_lt (g := gb1091) (o := .cells #[.int .i64 t1081, .int .i64 t1082, .int .i64 t1083, .int .i64 t1084, .int .i64 t1085, .int .i64 t1086, .int .i64 t1087, .int .i64 t1088] 41 (0, 0)) (by (with_reducible repeat (first | refine blk_drewN ?_ _ | refine blk_drew ?_ | refine blk_alloc ?_ _)); exact BK1091.out)) : gb1112 ≠ gb1091)); have n15_ := Aside0.mk ((by rw [hg]; exact Nat.ne_of_lt (blk_lt (g := gb1098) (o := .cells #[.int .i64 t1092, .int .i64 t1093, .slice Ao19 t1094.length co19] 25 (0, 0)) (by (with_reducible repeat (first | refine blk_drewN ?_ _ | refine blk_drew ?_ | refine blk_alloc ?_ _)); exact BK1098.out)) : gb1098 ≠ gb1112)); have n16_ := Aside0.mk ((by rw [hg]; exact Nat.ne_of_gt (blk_lt (g := gb1098) (o := .cells #[.int .i64 t1092, .int .i64 t1093, .slice Ao19 t1094.length co19] 25 (0, 0)) (by (with_reducible repeat (first | refine blk_drewN ?_ _ | refine blk_drew ?_ | refine blk_alloc ?_ _)); exact BK1098.out)) : gb1112 ≠ gb1098)); have n17_ := Aside0.mk ((by rw [hg]; exact Nat.ne_of_lt (blk_lt (g := gb1105) (o := .cells #[.int .i64 t1099, .int .i64 t1100, .slice Ao28 t1101.length co28] 25 (0, 0)) (by (with_reducible repeat (first | refine blk_drewN ?_ _ | refine blk_drew ?_ | refine blk_alloc ?_ _)); exact BK1105.out)) : gb1105 ≠ gb1112)); have n18_ := Aside0.mk ((by rw [hg]; exact Nat.ne_of_gt (blk_lt (g := gb1105) (o := .cells #[.int .i64 t1099, .int .i64 t1100, .slice Ao28 t1101.length co28] 25 (0, 0)) (by (with_reducible repeat (first | refine blk_drewN ?_ _ | refine blk_drew ?_ | refine blk_alloc ?_ _)); exact BK1105.out)) : gb1112 ≠ gb1105)); clear HO_1091002; clear HO_1099002; clear HO_1106002; clear BK1090; clear BK1091; clear BK1098; clear BK1105; clear HB; have HO_1091002 := n0_; have HO_1099002 := n1_; have HO_1106002 := n2_; have BK1090 := n3_; have BK1091 := n4_; have BK1098 := n5_; have BK1105 := n6_; have HB := n7_; have BK1112 := n8_; have GW1112 := n9_; have GE1112 := n10_; have NB1090_1112 := n11_; have NB1112_1090 := n12_; have NB1091_1112 := n13_; have NB1112_1091 := n14_; have NB1098_1112 := n15_; have NB1112_1098 := n16_; have NB1105_1112 := n17_; have NB1112_1105 := n18_; clear n0_ n1_ n2_ n3_ n4_ n5_ n6_ n7_ n8_ n9_ n10_ n11_ n12_ n13_ n14_ n15_ n16_ n17_ n18_; clear hb hbox hg; have hnb160 := NB1112_1090.out; have hnc160 := NB1090_1112.out; have hnb161 := NB1112_1091.out; have hnc161 := NB1091_1112.out; have hnb162 := NB1112_1098.out; have hnc162 := NB1098_1112.out; have hnb163 := NB1112_1105.out; have hnc163 := NB1105_1112.out; have hcz164_0 : w159.cell? ⟨gb1112, 0, none⟩ = some (.int .i64 0) := (blk_cell BK1112.out 0).trans rfl; have hcz164_1 : w159.cell? ⟨gb1112, 1, none⟩ = some (.int .i64 0) := (blk_cell BK1112.out 1).trans rfl; have hcz164_2 : w159.cell? ⟨gb1112, 2, none⟩ = some (.slice none 0 0) := (blk_cell BK1112.out 2).trans rfl; have hfz164_0 := blk_frozen BK1112.out 0; have hfz164_1 := blk_frozen BK1112.out 1; have hfz164_2 := blk_frozen BK1112.out 2) | ((with_reducible refine gate_dst (N := 100) rfl ?_); refine Kd.R_lit (Kd.int .i64) _ 3 ?hg (N := 100) ?hd (xs := ([] : List Int)) (inner := []) (ok := fun _ => True) (okp := fun _ => True) ?hr ?hp (fun _ hk => hk) trivial (Below.refl _ _) (Nat.le_refl _) (by simp) ?_; (case hd => rfl); (case hg => rfl); (case hr => first | (go_simp; done) | (go_simp; rfl)); (case hp => exact (Reps.none _ _)); intro v1114 w165 ho166 hb hg_ hnew_; clear hg_ hnew_; (first | rw [← Ny1113.out] at ho166 | (simp only [Int.reduceToNat] at ho166; rw [← Ny1113.out] at ho166)); have n0_ := Aside0.mk (Kd.Q_elder' (by (with_reducible repeat (first | apply Kd.Q_alloc | apply Kd.Q_drewN | apply Kd.Q_drew)); exact (Kd.Q_mono (Kd.Q_far (p := ⟨gb1112, 2, none⟩) (Kd.Q_far (p := ⟨gb1112, 1, none⟩) (Kd.Q_far (p := ⟨gb1112, 0, none⟩) (Kd.Q_types HO_1091002.out BK1112.out (by decide)) (fun _ hk => hk.2) (.int .i64 t1099)) (fun _ hk => hk.2) (.int .i64 t1100)) (fun _ hk => hk.2) (.slice Ao28 t1101.length co28)) (fun _ h_ => h_.1))) (Kd.R_base ho166) hb); have n1_ := Aside0.mk (Kd.Q_elder' (by (with_reducible repeat (first | apply Kd.Q_alloc | apply Kd.Q_drewN | apply Kd.Q_drew)); exact (Kd.Q_mono (Kd.Q_far (p := ⟨gb1112, 2, none⟩) (Kd.Q_far (p := ⟨gb1112, 1, none⟩) (Kd.Q_far (p := ⟨gb1112, 0, none⟩) (Kd.Q_types HO_1099002.out BK1112.out (by decide)) (fun _ hk => hk.2) (.int .i64 t1099)) (fun _ hk => hk.2) (.int .i64 t1100)) (fun _ hk => hk.2) (.slice Ao28 t1101.length co28)) (fun _ h_ => h_.1))) (Kd.R_base ho166) hb); have n2_ := Aside0.mk (Kd.Q_elder' (by (with_reducible repeat (first | apply Kd.Q_alloc | apply Kd.Q_drewN | apply Kd.Q_drew)); exact (Kd.Q_mono (Kd.Q_far (p := ⟨gb1112, 2, none⟩) (Kd.Q_far (p := ⟨gb1112, 1, none⟩) (Kd.Q_far (p := ⟨gb1112, 0, none⟩) (Kd.Q_types HO_1106002.out BK1112.out (by decide)) (fun _ hk => hk.2) (.int .i64 t1099)) (fun _ hk => hk.2) (.int .i64 t1100)) (fun _ hk => hk.2) (.slice Ao28 t1101.length co28)) (fun _ h_ => h_.1))) (Kd.R_base ho166) hb); have n3_ := Aside0.mk (Kd.R_lower (Kd.R_new' (Kd.R_new' (Kd.R_new' ho166 (Kd.Q_lt (by (with_reducible repeat (first | apply Kd.Q_alloc | apply Kd.Q_drewN | apply Kd.Q_drew)); exact (Kd.Q_mono (Kd.Q_far (p := ⟨gb1112, 2, none⟩) (Kd.Q_far (p := ⟨gb1112, 1, none⟩) (Kd.Q_far (p := ⟨gb1112, 0, none⟩) (Kd.Q_types HO_1091002.out BK1112.out (by decide)) (fun _ hk => hk.2) (.int .i64 t1099)) (fun _ hk => hk.2) (.int .i64 t1100)) (fun _ hk => hk.2) (.slice Ao28 t1101.length co28)) (fun _ h_ => h_.1))))) (Kd.Q_lt (by (with_reducible repeat (first | apply Kd.Q_alloc | apply Kd.Q_drewN | apply Kd.Q_drew)); exact (Kd.Q_mono (Kd.Q_far (p := ⟨gb1112, 2, none⟩) (Kd.Q_far (p := ⟨gb1112, 1, none⟩) (Kd.Q_far (p := ⟨gb1112, 0, none⟩) (Kd.Q_types HO_1099002.out BK1112.out (by decide)) (fun _ hk => hk.2) (.int .i64 t1099)) (fun _ hk => hk.2) (.int .i64 t1100)) (fun _ hk => hk.2) (.slice Ao28 t1101.length co28)) (fun _ h_ => h_.1))))) (Kd.Q_lt (by (with_reducible repeat (first | apply Kd.Q_alloc | apply Kd.Q_drewN | apply Kd.Q_drew)); exact (Kd.Q_mono (Kd.Q_far (p := ⟨gb1112, 2, none⟩) (Kd.Q_far (p := ⟨gb1112, 1, none⟩) (Kd.Q_far (p := ⟨gb1112, 0, none⟩) (Kd.Q_types HO_1106002.out BK1112.out (by decide)) (fun _ hk => hk.2) (.int .i64 t1099)) (fun _ hk => hk.2) (.int .i64 t1100)) (fun _ hk => hk.2) (.slice Ao28 t1101.length co28)) (fun _ h_ => h_.1))))) (below_size (by repeat (first | (with_reducible first | exact HB.out | apply below_alloc | apply pw_below_drewN | apply below_drew1 | refine below_set ?_ GE1090.out | refine below_set ?_ GE1091.out | refine below_set ?_ GE1098.out | refine below_set ?_ GE1105.out | refine below_set ?_ GE1112.out) | exact HB.out)))); have n4_ := Aside0.mk (blk_below (g := gb1090) (o := .cells #[.int .i64 t1076, .int .i64 t1077, .slice Ao12 t1078.length co12] 25 (0, 0)) (by (with_reducible repeat (first | refine blk_drewN ?_ _ | refine blk_drew ?_ | refine blk_alloc ?_ _)); refine blk_far ?_ NB1090_1112.out _; (with_reducible repeat (first | refine blk_drewN ?_ _ | refine blk_drew ?_ | refine blk_alloc ?_ _)); refine blk_far ?_ NB1090_1112.out _; (with_reducible repeat (first | refine blk_drewN ?_ _ | refine blk_drew ?_ | refine blk_alloc ?_ _)); refine blk_far ?_ NB1090_1112.out _; (with_reducible repeat (first | refine blk_drewN ?_ _ | refine blk_drew ?_ | refine blk_alloc ?_ _)); exact BK1090.out) hb); have n5_ := Aside0.mk (blk_below (g := gb1091) (o := .cells #[.int .i64 t1081, .int .i64 t1082, .int .i64 t1083, .int .i64 t1084, .int .i64 t1085, .int .i64 t1086, .int .i64 t1087, .int .i64 t1088] 41 (0, 0)) (by (with_reducible repeat (first | refine blk_drewN ?_ _ | refine blk_drew ?_ | refine blk_alloc ?_ _)); refine blk_far ?_ NB1091_1112.out _; (with_reducible repeat (first | refine blk_drewN ?_ _ | refine blk_drew ?_ | refine blk_alloc ?_ _)); refine blk_far ?_ NB1091_1112.out _; (with_reducible repeat (first | refine blk_drewN ?_ _ | refine blk_drew ?_ | refine blk_alloc ?_ _)); refine blk_far ?_ NB1091_1112.out _; (with_reducible repeat (first | refine blk_drewN ?_ _ | refine blk_drew ?_ | refine blk_alloc ?_ _)); exact BK1091.out) hb); have n6_ := Aside0.mk (blk_below (g := gb1098) (o := .cells #[.int .i64 t1092, .int .i64 t1093, .slice Ao19 t1094.length co19] 25 (0, 0)) (by (with_reducible repeat (first | refine blk_drewN ?_ _ | refine blk_drew ?_ | refine blk_alloc ?_ _)); refine blk_far ?_ NB1098_1112.out _; (with_reducible repeat (first | refine blk_drewN ?_ _ | refine blk_drew ?_ | refine blk_alloc ?_ _)); refine blk_far ?_ NB1098_1112.out _; (with_reducible repeat (first | refine blk_drewN ?_ _ | refine blk_drew ?_ | refine blk_alloc ?_ _)); refine blk_far ?_ NB1098_1112.out _; (with_reducible repeat (first | refine blk_drewN ?_ _ | refine blk_drew ?_ | refine blk_alloc ?_ _)); exact BK1098.out) hb); have n7_ := Aside0.mk (blk_below (g := gb1105) (o := .cells #[.int .i64 t1099, .int .i64 t1100, .slice Ao28 t1101.length co28] 25 (0, 0)) (by (with_reducible repeat (first | refine blk_drewN ?_ _ | refine blk_drew ?_ | refine blk_alloc ?_ _)); refine blk_far ?_ NB1105_1112.out _; (with_reducible repeat (first | refine blk_drewN ?_ _ | refine blk_drew ?_ | refine blk_alloc ?_ _)); refine blk_far ?_ NB1105_1112.out _; (with_reducible repeat (first | refine blk_drewN ?_ _ | refine blk_drew ?_ | refine blk_alloc ?_ _)); refine blk_far ?_ NB1105_1112.out _; (with_reducible repeat (first | refine blk_drewN ?_ _ | refine blk_drew ?_ | refine blk_alloc ?_ _)); exact BK1105.out) hb); have n8_ := Aside0.mk (blk_below (g := gb1112) (o := .cells #[.int .i64 t1099, .int .i64 t1100, .slice Ao28 t1101.length co28] 25 (0, 0)) (by (with_reducible repeat (first | refine blk_drewN ?_ _ | refine blk_drew ?_ | refine blk_alloc ?_ _)); refine blk_put (cs := #[.int .i64 t1099, .int .i64 t1100, .slice none 0 0]) ?_ 2 _ rfl; (with_reducible repeat (first | refine blk_drewN ?_ _ | refine blk_drew ?_ | refine blk_alloc ?_ _)); refine blk_put (cs := #[.int .i64 t1099, .int .i64 0, .slice none 0 0]) ?_ 1 _ rfl; (with_reducible repeat (first | refine blk_drewN ?_ _ | refine blk_drew ?_ | refine blk_alloc ?_ _)); refine blk_put (cs := #[.int .i64 0, .int .i64 0, .slice none 0 0]) ?_ 0 _ rfl; (with_reducible repeat (first | refine blk_drewN ?_ _ | refine blk_drew ?_ | refine blk_alloc ?_ _)); exact BK1112.out) hb); have n9_ := Aside0.mk (below_step (by repeat (first | (with_reducible first | exact HB.out | apply below_alloc | apply pw_below_drewN | apply below_drew1 | refine below_set ?_ GE1090.out | refine below_set ?_ GE1091.out | refine below_set ?_ GE1098.out | refine below_set ?_ GE1105.out | refine below_set ?_ GE1112.out) | exact HB.out)) hb); clear HO_1091002; clear HO_1099002; clear HO_1106002; clear BK1090; clear BK1091; clear BK1098; clear BK1105; clear BK1112; clear HB; have HO_1091002 := n0_; have HO_1099002 := n1_; have HO_1106002 := n2_; have HO1115 := n3_; have BK1090 := n4_; have BK1091 := n5_; have BK1098 := n6_; have BK1105 := n7_; have BK1112 := n8_; have HB := n9_; clear n0_ n1_ n2_ n3_ n4_ n5_ n6_ n7_ n8_ n9_; clear hb ho166; have hcz167_0 : w165.cell? ⟨gb1105, 0, none⟩ = some (.int .i64 t1099) := (blk_cell BK1105.out 0).trans rfl; have hcz167_1 : w165.cell? ⟨gb1105, 1, none⟩ = some (.int .i64 t1100) := (blk_cell BK1105.out 1).trans rfl; have hcz167_2 : w165.cell? ⟨gb1105, 2, none⟩ = some (.slice Ao28 t1101.length co28) := (blk_cell BK1105.out 2).trans rfl; have hfz167_0 := blk_frozen BK1105.out 0; have hfz167_1 := blk_frozen BK1105.out 1; have hfz167_2 := blk_frozen BK1105.out 2) | ((with_reducible refine gate_builtin (b := .append) (xs := #[.tmp 100, .tmp 102]) rfl ?_); at_builtin; refine Kd.R_append_rows (Kd.int .i64) (w0 := w) w.heap.size rfl (.tmp 100) (.tmp 102) 23 3 (.int .i64 0) 8 rfl Try.underlying23 info3 rfl (by decide) (by omega) v1114 y1113 t1101 _ _ _ (fun k_ => some k_ ≠ (.slice Ao12 t1078.length co12 : Value).ownBlock ∧ some k_ ≠ (.slice Ao19 t1094.length co19 : Value).ownBlock ∧ some k_ ≠ (.slice Ao28 t1101.length co28 : Value).ownBlock) (fun _ => False) rfl rfl ?aO ?aR (fun _ _ h => h) (fun _ h => h.elim) ?aF ?aB ?aS ?aL ?_; (case aR => repeat (first | exact (Kd.Q_reads' HO_1106002.out).2.2 | (with_reducible refine Kd.C_alloc ?_ _) | (with_reducible refine Kd.C_drewN ?_ _) | (with_reducible refine Kd.C_drew ?_))); (case aB => exact (by repeat (first | (with_reducible first | exact HB.out | apply below_alloc | apply pw_below_drewN | apply below_drew1 | refine below_set ?_ GE1090.out | refine below_set ?_ GE1091.out | refine below_set ?_ GE1098.out | refine below_set ?_ GE1105.out | refine below_set ?_ GE1112.out) | exact HB.out))); (case aF => exact (fun k_ hk => ⟨Kd.fresh' (Kd.Q_lt (by (with_reducible repeat (first | apply Kd.Q_alloc | apply Kd.Q_drewN | apply Kd.Q_drew)); exact HO_1091002.out)) k_ hk, Kd.fresh' (Kd.Q_lt (by (with_reducible repeat (first | apply Kd.Q_alloc | apply Kd.Q_drewN | apply Kd.Q_drew)); exact HO_1099002.out)) k_ hk, Kd.fresh' (Kd.Q_lt (by (with_reducible repeat (first | apply Kd.Q_alloc | apply Kd.Q_drewN | apply Kd.Q_drew)); exact HO_1106002.out)) k_ hk⟩)); (case aO => exact (by (with_reducible repeat (first | apply Kd.R_alloc | apply Kd.R_drewN | apply Kd.R_drew)); exact Kd.R_mono HO1115.out (fun _ hk => ⟨hk.1.1.2, ⟨hk.1.2, hk.2⟩⟩))); (case aS => exact (below_size (by repeat (first | (with_reducible first | exact HB.out | apply below_alloc | apply pw_below_drewN | apply below_drew1 | refine below_set ?_ GE1090.out | refine below_set ?_ GE1091.out | refine below_set ?_ GE1098.out | refine below_set ?_ GE1105.out | refine below_set ?_ GE1112.out) | exact HB.out)))); (case aL => have := LMc144.out; omega); intro v1117 w168 ho hb hg hat; rw [← Ny1116.out] at ho; have n0_ := Aside0.mk (Kd.Q_after (ok := (fun k_ => some k_ ≠ (.slice Ao19 t1094.length co19 : Value).ownBlock ∧ some k_ ≠ (.slice Ao28 t1101.length co28 : Value).ownBlock)) (by (with_reducible repeat (first | apply Kd.Q_alloc | apply Kd.Q_drewN | apply Kd.Q_drew)); exact HO_1091002.out) hg hat); have n1_ := Aside0.mk (Kd.Q_after (ok := (fun k_ => some k_ ≠ (.slice Ao12 t1078.length co12 : Value).ownBlock ∧ some k_ ≠ (.slice Ao28 t1101.length co28 : Value).ownBlock)) (by (with_reducible repeat (first | apply Kd.Q_alloc | apply Kd.Q_drewN | apply Kd.Q_drew)); exact HO_1099002.out) hg hat); have n2_ := Aside0.mk (Kd.Q_after (ok := (fun k_ => some k_ ≠ (.slice Ao12 t1078.length co12 : Value).ownBlock ∧ some k_ ≠ (.slice Ao19 t1094.length co19 : Value).ownBlock)) (by (with_reducible repeat (first | apply Kd.Q_alloc | apply Kd.Q_drewN | apply Kd.Q_drew)); exact HO_1106002.out) hg hat); have n3_ := Aside0.mk (blk_grown (g := gb1090) (o := .cells #[.int .i64 t1076, .int .i64 t1077, .slice Ao12 t1078.length co12] 25 (0, 0)) (by (with_reducible repeat (first | refine blk_drewN ?_ _ | refine blk_drew ?_ | refine blk_alloc ?_ _)); exact BK1090.out) hg (Kd.R_ne HO1115.out BK1090.out (by decide))); have n4_ := Aside0.mk (blk_grown (g := gb1091) (o := .cells #[.int .i64 t1081, .int .i64 t1082, .int .i64 t1083, .int .i64 t1084, .int .i64 t1085, .int .i64 t1086, .int .i64 t1087, .int .i64 t1088] 41 (0, 0)) (by (with_reducible repeat (first | refine blk_drewN ?_ _ | refine blk_drew ?_ | refine blk_alloc ?_ _)); exact BK1091.out) hg (Kd.R_ne HO1115.out BK1091.out (by decide))); have n5_ := Aside0.mk (blk_grown (g := gb1098) (o := .cells #[.int .i64 t1092, .int .i64 t1093, .slice Ao19 t1094.length co19] 25 (0, 0)) (by (with_reducible repeat (first | refine blk_drewN ?_ _ | refine blk_drew ?_ | refine blk_alloc ?_ _)); exact BK1098.out) hg (Kd.R_ne HO1115.out BK1098.out (by decide))); have n6_ := Aside0.mk (blk_grown (g := gb1105) (o := .cells #[.int .i64 t1099, .int .i64 t1100, .slice Ao28 t1101.length co28] 25 (0, 0)) (by (with_reducible repeat (first | refine blk_drewN ?_ _ | refine blk_drew ?_ | refine blk_alloc ?_ _)); exact BK1105.out) hg (Kd.R_ne HO1115.out BK1105.out (by decide))); have n7_ := Aside0.mk (blk_grown (g := gb1112) (o := .cells #[.int .i64 t1099, .int .i64 t1100, .slice Ao28 t1101.length co28] 25 (0, 0)) (by (with_reducible repeat (first | refine blk_drewN ?_ _ | refine blk_drew ?_ | refine blk_alloc ?_ _)); exact BK1112.out) hg (Kd.R_ne HO1115.out BK1112.out (by decide))); have n8_ := Aside0.mk (hb); have n9_ := Aside0.mk (ho); clear HO_1091002; clear HO_1099002; clear HO_1106002; clear BK1090; clear BK1091; clear BK1098; clear BK1105; clear BK1112; clear HB; clear HO1115; have HO_1091002 := n0_; have HO_1099002 := n1_; have HO_1106002 := n2_; have BK1090 := n3_; have BK1091 := n4_; have BK1098 := n5_; have BK1105 := n6_; have BK1112 := n7_; have HB := n8_; have HO1118 := n9_; clear n0_ n1_ n2_ n3_ n4_ n5_ n6_ n7_ n8_ n9_; clear ho hb hg hat; obtain ⟨Ao169, co169, eo169⟩ := Kd.R_slice HO1118.out; subst eo169; have hcz170_0 : w168.cell? ⟨gb1112, 0, none⟩ = some (.int .i64 t1099) := (blk_cell BK1112.out 0).trans rfl; have hcz170_1 : w168.cell? ⟨gb1112, 1, none⟩ = some (.int .i64 t1100) := (blk_cell BK1112.out 1).trans rfl; have hcz170_2 : w168.cell? ⟨gb1112, 2, none⟩ = some (.slice Ao28 t1101.length co28) := (blk_cell BK1112.out 2).trans rfl; have hfz170_0 := blk_frozen BK1112.out 0; have hfz170_1 := blk_frozen BK1112.out 1; have hfz170_2 := blk_frozen BK1112.out 2))
                              have n0_ : Aside0 (Kd.Q (Kd.int .i64) 3 (w168.setCell ⟨gb1112, 2, none⟩ (.slice Ao169 y1116.length co169)) w.heap.size (fun k_ => some k_ ≠ (.slice Ao19 t1094.length co19 : Value).ownBlock ∧ some k_ ≠ (.slice Ao28 t1101.length co28 : Value).ownBlock ∧ some k_ ≠ (.slice Ao169 y1116.length co169 : Value).ownBlock) (.slice Ao12 t1078.length co12) t1078) := ⟨by (with_reducible repeat (first | apply Kd.Q_alloc | apply Kd.Q_drewN | apply Kd.Q_drew)); exact Kd.Q_mono (Kd.Q_far (p := ⟨gb1112, 2, none⟩) (Kd.Q_types HO_1091002.out BK1112.out (by decide)) (fun _ hk => hk.2) (.slice Ao169 y1116.length co169)) (fun _ hk => ⟨hk.1.1.1, ⟨hk.1.1.2, hk.1.2⟩⟩)⟩
                              have n1_ : Aside0 (Kd.Q (Kd.int .i64) 3 (w168.setCell ⟨gb1112, 2, none⟩ (.slice Ao169 y1116.length co169)) w.heap.size (fun k_ => some k_ ≠ (.slice Ao12 t1078.length co12 : Value).ownBlock ∧ some k_ ≠ (.slice Ao28 t1101.length co28 : Value).ownBlock ∧ some k_ ≠ (.slice Ao169 y1116.length co169 : Value).ownBlock) (.slice Ao19 t1094.length co19) t1094) := ⟨by (with_reducible repeat (first | apply Kd.Q_alloc | apply Kd.Q_drewN | apply Kd.Q_drew)); exact Kd.Q_mono (Kd.Q_far (p := ⟨gb1112, 2, none⟩) (Kd.Q_types HO_1099002.out BK1112.out (by decide)) (fun _ hk => hk.2) (.slice Ao169 y1116.length co169)) (fun _ hk => ⟨hk.1.1.1, ⟨hk.1.1.2, hk.1.2⟩⟩)⟩
                              have n2_ : Aside0 (Kd.Q (Kd.int .i64) 3 (w168.setCell ⟨gb1112, 2, none⟩ (.slice Ao169 y1116.length co169)) w.heap.size (fun k_ => some k_ ≠ (.slice Ao12 t1078.length co12 : Value).ownBlock ∧ some k_ ≠ (.slice Ao19 t1094.length co19 : Value).ownBlock ∧ some k_ ≠ (.slice Ao169 y1116.length co169 : Value).ownBlock) (.slice Ao28 t1101.length co28) t1101) := ⟨by (with_reducible repeat (first | apply Kd.Q_alloc | apply Kd.Q_drewN | apply Kd.Q_drew)); exact Kd.Q_mono (Kd.Q_far (p := ⟨gb1112, 2, none⟩) (Kd.Q_types HO_1106002.out BK1112.out (by decide)) (fun _ hk => hk.2) (.slice Ao169 y1116.length co169)) (fun _ hk => ⟨hk.1.1.1, ⟨hk.1.1.2, hk.1.2⟩⟩)⟩
                              have n3_ : Aside0 (Kd.R (Kd.int .i64) 3 (w168.setCell ⟨gb1112, 2, none⟩ (.slice Ao169 y1116.length co169)) w.heap.size (fun k_ => some k_ ≠ (.slice Ao12 t1078.length co12 : Value).ownBlock ∧ some k_ ≠ (.slice Ao19 t1094.length co19 : Value).ownBlock ∧ some k_ ≠ (.slice Ao28 t1101.length co28 : Value).ownBlock) (.slice Ao169 y1116.length co169) y1116) := ⟨by (with_reducible repeat (first | apply Kd.R_alloc | apply Kd.R_drewN | apply Kd.R_drew)); exact Kd.R_mono (Kd.R_far (p := ⟨gb1112, 2, none⟩) (Kd.R_types HO1118.out BK1112.out (by decide)) (fun _ hk => hk.2) (.slice Ao169 y1116.length co169)) (fun _ hk => ⟨hk.1.1, ⟨hk.1.2.1, hk.1.2.2⟩⟩)⟩
                              have n4_ : Aside0 ((w168.setCell ⟨gb1112, 2, none⟩ (.slice Ao169 y1116.length co169)).heap[gb1090]? = some (.cells #[.int .i64 t1076, .int .i64 t1077, .slice Ao12 t1078.length co12] 25 (0, 0))) := ⟨by (with_reducible repeat (first | refine blk_drewN ?_ _ | refine blk_drew ?_ | refine blk_alloc ?_ _)); refine blk_far ?_ NB1090_1112.out _; (with_reducible repeat (first | refine blk_drewN ?_ _ | refine blk_drew ?_ | refine blk_alloc ?_ _)); exact BK1090.out⟩
                              have n5_ : Aside0 ((w168.setCell ⟨gb1112, 2, none⟩ (.slice Ao169 y1116.length co169)).heap[gb1091]? = some (.cells #[.int .i64 t1081, .int .i64 t1082, .int .i64 t1083, .int .i64 t1084, .int .i64 t1085, .int .i64 t1086, .int .i64 t1087, .int .i64 t1088] 41 (0, 0))) := ⟨by (with_reducible repeat (first | refine blk_drewN ?_ _ | refine blk_drew ?_ | refine blk_alloc ?_ _)); refine blk_far ?_ NB1091_1112.out _; (with_reducible repeat (first | refine blk_drewN ?_ _ | refine blk_drew ?_ | refine blk_alloc ?_ _)); exact BK1091.out⟩
                              have n6_ : Aside0 ((w168.setCell ⟨gb1112, 2, none⟩ (.slice Ao169 y1116.length co169)).heap[gb1098]? = some (.cells #[.int .i64 t1092, .int .i64 t1093, .slice Ao19 t1094.length co19] 25 (0, 0))) := ⟨by (with_reducible repeat (first | refine blk_drewN ?_ _ | refine blk_drew ?_ | refine blk_alloc ?_ _)); refine blk_far ?_ NB1098_1112.out _; (with_reducible repeat (first | refine blk_drewN ?_ _ | refine blk_drew ?_ | refine blk_alloc ?_ _)); exact BK1098.out⟩
                              have n7_ : Aside0 ((w168.setCell ⟨gb1112, 2, none⟩ (.slice Ao169 y1116.length co169)).heap[gb1105]? = some (.cells #[.int .i64 t1099, .int .i64 t1100, .slice Ao28 t1101.length co28] 25 (0, 0))) := ⟨by (with_reducible repeat (first | refine blk_drewN ?_ _ | refine blk_drew ?_ | refine blk_alloc ?_ _)); refine blk_far ?_ NB1105_1112.out _; (with_reducible repeat (first | refine blk_drewN ?_ _ | refine blk_drew ?_ | refine blk_alloc ?_ _)); exact BK1105.out⟩
                              have n8_ : Aside0 ((w168.setCell ⟨gb1112, 2, none⟩ (.slice Ao169 y1116.length co169)).heap[gb1112]? = some (.cells #[.int .i64 t1099, .int .i64 t1100, .slice Ao169 y1116.length co169] 25 (0, 0))) := ⟨by (with_reducible repeat (first | refine blk_drewN ?_ _ | refine blk_drew ?_ | refine blk_alloc ?_ _)); refine blk_put (cs := #[.int .i64 t1099, .int .i64 t1100, .slice Ao28 t1101.length co28]) ?_ 2 _ rfl; (with_reducible repeat (first | refine blk_drewN ?_ _ | refine blk_drew ?_ | refine blk_alloc ?_ _)); exact BK1112.out⟩
                              have n9_ : Aside0 (Below w.heap.size w (w168.setCell ⟨gb1112, 2, none⟩ (.slice Ao169 y1116.length co169))) := ⟨by repeat (first | (with_reducible first | exact HB.out | apply below_alloc | apply pw_below_drewN | apply below_drew1 | refine below_set ?_ GE1090.out | refine below_set ?_ GE1091.out | refine below_set ?_ GE1098.out | refine below_set ?_ GE1105.out | refine below_set ?_ GE1112.out) | exact HB.out)⟩
                              (try clear HO_1091002)
                              (try clear HO_1099002)
                              (try clear HO_1106002)
                              (try clear HO1118)
                              (try clear BK1090)
                              (try clear BK1091)
                              (try clear BK1098)
                              (try clear BK1105)
                              (try clear BK1112)
                              (try clear HB)
                              generalize (w168.setCell ⟨gb1112, 2, none⟩ (.slice Ao169 y1116.length co169)) = w171 at n0_ n1_ n2_ n3_ n4_ n5_ n6_ n7_ n8_ n9_ ⊢
                              have HO_1091002 := n0_
                              have HO_1099002 := n1_
                              have HO_1106002 := n2_
                              have HO1118 := n3_
                              have BK1090 := n4_
                              have BK1091 := n5_
                              have BK1098 := n6_
                              have BK1105 := n7_
                              have BK1112 := n8_
                              have HB := n9_
                              clear n0_ n1_ n2_ n3_ n4_ n5_ n6_ n7_ n8_ n9_
                              have n0_ := Aside0.mk (Kd.Q_drew HO_1091002.out)
                              have n1_ := Aside0.mk (Kd.Q_drew HO_1099002.out)
                              have n2_ := Aside0.mk (Kd.Q_drew HO_1106002.out)
                              have n3_ := Aside0.mk (Kd.R_drew HO1118.out)
                              have n4_ := Aside0.mk (blk_drew BK1090.out)
                              have n5_ := Aside0.mk (blk_drew BK1091.out)
                              have n6_ := Aside0.mk (blk_drew BK1098.out)
                              have n7_ := Aside0.mk (blk_drew BK1105.out)
                              have n8_ := Aside0.mk (blk_drew BK1112.out)
                              have n9_ := Aside0.mk (below_drew1 HB.out)
                              clear HO_1091002
                              clear HO_1099002
                              clear HO_1106002
                              clear HO1118
                              clear BK1090
                              clear BK1091
                              clear BK1098
                              clear BK1105
                              clear BK1112
                              clear HB
                              have HO_1091002 := n0_
                              have HO_1099002 := n1_
                              have HO_1106002 := n2_
                              have HO1118 := n3_
                              have BK1090 := n4_
                              have BK1091 := n5_
                              have BK1098 := n6_
                              have BK1105 := n7_
                              have BK1112 := n8_
                              have HB := n9_
                              clear n0_ n1_ n2_ n3_ n4_ n5_ n6_ n7_ n8_ n9_
                              have p1119 : 0 ≤ (t1084 : Int) := of_decide_eq_true (by first | (with_reducible assumption) | assumption)
                              have q1119 : t1084 < (t1078.length : Int) := of_decide_eq_true (by first | (with_reducible assumption) | assumption)
                              obtain ⟨ad1119, e1119, hx1119_0⟩ := Kd.at_int (Kd.Q_reads' HO_1091002.out).2.2 t1084 p1119 q1119
                              cases e1119
                              replace p1119 := eq_true p1119
                              replace q1119 := eq_true q1119
                              have p148 : 0 ≤ (t1084 : Int) := of_decide_eq_true (by first | (with_reducible assumption) | assumption)
                              have q148 : (t1084 : Int) < ((y1116.length : Int) : Int) := of_decide_eq_true (by first | (with_reducible assumption) | assumption)
                              obtain ⟨go148, co148, eo148, gb148, gl148, cl148, HG148⟩ := Kd.R_form HO1118.out (by omega)
                              (first | cases eo148 | (injection eo148 with ea_ en_ ec_; (first | subst ea_ | (injection ea_ with ea_; subst ea_)); subst ec_; clear en_))
                              have GB148 := Aside0.mk gb148
                              have GG148 := Aside0.mk HG148
                              clear gb148 gl148 HG148
                              obtain ⟨hx148_0, hf148_0⟩ := Kd.R_celln 0 HO1118.out (t1084 : Int) p148 q148
                              replace p148 := eq_true p148
                              replace q148 := eq_true q148
                              have HP173 := Kd.R_putn HO1118.out (t1084 : Int) (rd t1078 t1084)
                              rw [← Ny1120.out] at HP173
                              have HQ173 := Aside0.mk HP173
                              clear HP173
                              refine start_ (n := 12) (S := fun w' => w'.cell? ⟨gb1112, 0, none⟩ = some (.int .i64 t1099) ∧ w'.cell? ⟨gb1112, 1, none⟩ = some (.int .i64 t1100) ∧ w'.cell? ⟨gb1112, 2, none⟩ = some (.slice (some ⟨go148, 0, none⟩) y1116.length co169) ∧ w'.cell? ⟨gb1091, 0, none⟩ = some (.int .i64 t1081) ∧ w'.cell? ⟨gb1091, 1, none⟩ = some (.int .i64 t1082) ∧ w'.cell? ⟨gb1091, 2, none⟩ = some (.int .i64 t1083) ∧ w'.cell? ⟨gb1091, 3, none⟩ = some (.int .i64 t1084) ∧ w'.cell? ⟨gb1091, 4, none⟩ = some (.int .i64 t1085) ∧ w'.cell? ⟨gb1091, 5, none⟩ = some (.int .i64 t1086) ∧ w'.cell? ⟨gb1091, 6, none⟩ = some (.int .i64 t1087) ∧ w'.cell? ⟨gb1091, 7, none⟩ = some (.int .i64 t1088) ∧ w'.cell? ⟨gb1090, 0, none⟩ = some (.int .i64 t1076) ∧ w'.cell? ⟨gb1090, 1, none⟩ = some (.int .i64 t1077) ∧ w'.cell? ⟨gb1090, 2, none⟩ = some (.slice (some ad1119) t1078.length co12) ∧ w'.cell? (ad1119.add (t1084).toNat) = some (.int .i64 (rd t1078 t1084))) (ds := [11]) #[false, false, false, false, false, false, false, false, false, false, false, false] (by kernel_rfl) rfl rfl ⟨(blk_cell BK1112.out 0).trans rfl, (blk_cell BK1112.out 1).trans rfl, (blk_cell BK1112.out 2).trans rfl, (blk_cell BK1091.out 0).trans rfl, (blk_cell BK1091.out 1).trans rfl, (blk_cell BK1091.out 2).trans rfl, (blk_cell BK1091.out 3).trans rfl, (blk_cell BK1091.out 4).trans rfl, (blk_cell BK1091.out 5).trans rfl, (blk_cell BK1091.out 6).trans rfl, (blk_cell BK1091.out 7).trans rfl, (blk_cell BK1090.out 0).trans rfl, (blk_cell BK1090.out 1).trans rfl, (blk_cell BK1090.out 2).trans rfl, hx1119_0⟩ (fun hHeld => ?_); refine with_tabW laws_FnRecDo.tab14 laws_FnRecDo.bits14 (fun HT_ HW_ => ?_)
                              generalize w171.drew = w172 at HO_1091002 HO_1099002 HO_1106002 HO1118 BK1090 BK1091 BK1098 BK1105 BK1112 HB GG148 HQ173 hf148_0 hx1119_0 hx148_0 hHeld ⊢
                              refine pure_ (i := 0) (N := some 105) (v := ?_) (a' := ?_) #[true, false, false, false, false, false, false, false, false, false, false, false] rfl rfl (any_of HT_.out (by kernel_rfl)) (fun _ _ _ h => h) (Or.inl ⟨by rfl, ?_⟩) ?_ ?_
                              rotate_left
                              · intro w'
                                go_simp
                                with_reducible rfl
                              rotate_left
                              · simp only [Act.put, List.setIfInBounds_toArray, List.set_cons_zero, List.set_cons_succ, i64_w, i32_w]
                                rfl
                              refine pure_ (i := 2) (N := some 107) (v := ?_) (a' := ?_) #[true, false, true, false, false, false, false, false, false, false, false, false] rfl rfl (any_of HT_.out (by kernel_rfl)) (fun _ _ _ h => h) (Or.inl ⟨by rfl, ?_⟩) ?_ ?_
                              rotate_left
                              · intro w'
                                go_simp
                                with_reducible rfl
                              rotate_left
                              · simp only [Act.put, List.setIfInBounds_toArray, List.set_cons_zero, List.set_cons_succ, i64_w, i32_w]
                                rfl
                              refine pure_ (i := 4) (N := some 109) (v := ?_) (a' := ?_) #[true, false, true, false, true, false, false, false, false, false, false, false] rfl rfl (any_of HT_.out (by kernel_rfl)) (fun _ _ _ h => h) (Or.inl ⟨by rfl, ?_⟩) ?_ ?_
                              rotate_left
                              · intro w'
                                go_simp
                                with_reducible rfl
                              rotate_left
                              · simp only [Act.put, List.setIfInBounds_toArray, List.set_cons_zero, List.set_cons_succ, i64_w, i32_w]
                                rfl
                              refine pure_ (i := 6) (N := some 111) (v := ?_) (a' := ?_) #[true, false, true, false, true, false, true, false, false, false, false, false] rfl rfl (any_of HT_.out (by kernel_rfl)) (fun _ _ _ h => h) (Or.inl ⟨by rfl, ?_⟩) ?_ ?_
                              rotate_left
                              · intro w'
                                go_simp
                                with_reducible rfl
                              rotate_left
                              · simp only [Act.put, List.setIfInBounds_toArray, List.set_cons_zero, List.set_cons_succ, i64_w, i32_w]
                                rfl
                              refine take_ (i := 1) (N := some 106) (v := ?_) (a' := ?_) #[true, true, true, false, true, false, true, false, false, false, false, false] rfl rfl (take_ofW HT_.out HW_.out (by kernel_rfl)) (fun _ _ _ h => h) (Or.inl ⟨by rfl, ?_⟩) hHeld ?_ ?_
                              rotate_left
                              · rintro w' ⟨s0, s1, s2, s3, s4, s5, s6, s7, s8, s9, s10, s11, s12, s13, s14⟩
                                go_simp
                                with_reducible rfl
                              rotate_left
                              · simp only [Act.put, List.setIfInBounds_toArray, List.set_cons_zero, List.set_cons_succ, i64_w, i32_w]
                                rfl
                              refine take_ (i := 3) (N := some 108) (v := ?_) (a' := ?_) #[true, true, true, true, true, false, true, false, false, false, false, false] rfl rfl (take_ofW HT_.out HW_.out (by kernel_rfl)) (fun _ _ _ h => h) (Or.inl ⟨by rfl, ?_⟩) hHeld ?_ ?_
                              rotate_left
                              · rintro w' ⟨s0, s1, s2, s3, s4, s5, s6, s7, s8, s9, s10, s11, s12, s13, s14⟩
                                go_simp
                                with_reducible rfl
                              rotate_left
                              · simp only [Act.put, List.setIfInBounds_toArray, List.set_cons_zero, List.set_cons_succ, i64_w, i32_w]
                                rfl
                              refine take_ (i := 5) (N := some 110) (v := ?_) (a' := ?_) #[true, true, true, true, true, true, true, false, false, false, false, false] rfl rfl (take_ofW HT_.out HW_.out (by kernel_rfl)) (fun _ _ _ h => h) (Or.inl ⟨by rfl, ?_⟩) hHeld ?_ ?_
                              rotate_left
                              · rintro w' ⟨s0, s1, s2, s3, s4, s5, s6, s7, s8, s9, s10, s11, s12, s13, s14⟩
                                go_simp
                                with_reducible rfl
                              rotate_left
                              · simp only [Act.put, List.setIfInBounds_toArray, List.set_cons_zero, List.set_cons_succ, i64_w, i32_w]
                                rfl
                              refine take_ (i := 7) (N := some 112) (v := ?_) (a' := ?_) #[true, true, true, true, true, true, true, true, false, false, false, false] rfl rfl (take_ofW HT_.out HW_.out (by kernel_rfl)) (fun _ _ _ h => h) (Or.inl ⟨by rfl, ?_⟩) hHeld ?_ ?_
                              rotate_left
                              · rintro w' ⟨s0, s1, s2, s3, s4, s5, s6, s7, s8, s9, s10, s11, s12, s13, s14⟩
                                go_simp
                                with_reducible rfl
                              rotate_left
                              · simp only [Act.put, List.setIfInBounds_toArray, List.set_cons_zero, List.set_cons_succ, i64_w, i32_w]
                                rfl
                              refine pure_ (i := 8) (N := some 113) (v := ?_) (a' := ?_) #[true, true, true, true, true, true, true, true, true, false, false, false] rfl rfl (any_of HT_.out (by kernel_rfl)) (fun _ _ _ h => h) (Or.inl ⟨by rfl, ?_⟩) ?_ ?_
                              rotate_left
                              · intro w'
                                go_simp
                                with_reducible rfl
                              rotate_left
                              · simp only [Act.put, List.setIfInBounds_toArray, List.set_cons_zero, List.set_cons_succ, i64_w, i32_w]
                                rfl
                              refine take_ (i := 9) (N := some 114) (v := ?_) (a' := ?_) #[true, true, true, true, true, true, true, true, true, true, false, false] rfl rfl (take_ofW HT_.out HW_.out (by kernel_rfl)) (fun _ _ _ h => h) (Or.inl ⟨by rfl, ?_⟩) hHeld ?_ ?_
                              rotate_left
                              · rintro w' ⟨s0, s1, s2, s3, s4, s5, s6, s7, s8, s9, s10, s11, s12, s13, s14⟩
                                go_simp
                                with_reducible rfl
                              rotate_left
                              · simp only [Act.put, List.setIfInBounds_toArray, List.set_cons_zero, List.set_cons_succ, i64_w, i32_w]
                                rfl
                              refine pure_ (i := 10) (N := some 115) (v := ?_) (a' := ?_) #[true, true, true, true, true, true, true, true, true, true, true, false] rfl rfl (any_of HT_.out (by kernel_rfl)) (fun _ _ _ h => h) (Or.inl ⟨by rfl, ?_⟩) ?_ ?_
                              rotate_left
                              · intro w'
                                go_simp
                                with_reducible rfl
                              rotate_left
                              · simp only [Act.put, List.setIfInBounds_toArray, List.set_cons_zero, List.set_cons_succ, i64_w, i32_w]
                                rfl
                              refine last_ (i := 11) (N := none) #[true, true, true, true, true, true, true, true, true, true, true, true] rfl rfl (one_of HT_.out (by kernel_rfl)) (by decide) (fun K hK => ?_)
                              refine skip_ (w1 := ?_) (by rfl) rfl ?_ ?_
                              rotate_left
                              · go_simp
                                rfl
                              refine hK.out _ _ ?_
                              clear hK K
                              refine done_ (done_of HT_.out (by kernel_rfl)) ?_
                              try go_wp2
                              have n0_ : Aside0 (Kd.Q (Kd.int .i64) 3 (w172.setCell ⟨go148, (t1084 : Int).toNat, none⟩ (.int .i64 (rd t1078 t1084))) w.heap.size (fun k_ => some k_ ≠ (.slice Ao19 t1094.length co19 : Value).ownBlock ∧ some k_ ≠ (.slice Ao28 t1101.length co28 : Value).ownBlock ∧ some k_ ≠ (.slice (some ⟨go148, 0, none⟩) y1116.length co169 : Value).ownBlock) (.slice (some ad1119) t1078.length co12) t1078) := ⟨by (with_reducible repeat (first | apply Kd.Q_alloc | apply Kd.Q_drewN | apply Kd.Q_drew)); exact Kd.Q_mono (Kd.Q_far (p := ⟨go148, (t1084 : Int).toNat, none⟩) (Kd.Q_mono HO_1091002.out (fun k_ hk => (⟨hk, fun e_ => hk.2.2 (by rw [e_]; rfl)⟩ : _ ∧ k_ ≠ go148))) (fun _ hk => hk.2) (.int .i64 (rd t1078 t1084))) (fun _ hk => ⟨hk.1.1, ⟨hk.1.2.1, hk.1.2.2⟩⟩)⟩
                              have n1_ : Aside0 (Kd.Q (Kd.int .i64) 3 (w172.setCell ⟨go148, (t1084 : Int).toNat, none⟩ (.int .i64 (rd t1078 t1084))) w.heap.size (fun k_ => some k_ ≠ (.slice (some ad1119) t1078.length co12 : Value).ownBlock ∧ some k_ ≠ (.slice Ao28 t1101.length co28 : Value).ownBlock ∧ some k_ ≠ (.slice (some ⟨go148, 0, none⟩) y1116.length co169 : Value).ownBlock) (.slice Ao19 t1094.length co19) t1094) := ⟨by (with_reducible repeat (first | apply Kd.Q_alloc | apply Kd.Q_drewN | apply Kd.Q_drew)); exact Kd.Q_mono (Kd.Q_far (p := ⟨go148, (t1084 : Int).toNat, none⟩) (Kd.Q_mono HO_1099002.out (fun k_ hk => (⟨hk, fun e_ => hk.2.2 (by rw [e_]; rfl)⟩ : _ ∧ k_ ≠ go148))) (fun _ hk => hk.2) (.int .i64 (rd t1078 t1084))) (fun _ hk => ⟨hk.1.1, ⟨hk.1.2.1, hk.1.2.2⟩⟩)⟩
                              have n2_ : Aside0 (Kd.Q (Kd.int .i64) 3 (w172.setCell ⟨go148, (t1084 : Int).toNat, none⟩ (.int .i64 (rd t1078 t1084))) w.heap.size (fun k_ => some k_ ≠ (.slice (some ad1119) t1078.length co12 : Value).ownBlock ∧ some k_ ≠ (.slice Ao19 t1094.length co19 : Value).ownBlock ∧ some k_ ≠ (.slice (some ⟨go148, 0, none⟩) y1116.length co169 : Value).ownBlock) (.slice Ao28 t1101.length co28) t1101) := ⟨by (with_reducible repeat (first | apply Kd.Q_alloc | apply Kd.Q_drewN | apply Kd.Q_drew)); exact Kd.Q_mono (Kd.Q_far (p := ⟨go148, (t1084 : Int).toNat, none⟩) (Kd.Q_mono HO_1106002.out (fun k_ hk => (⟨hk, fun e_ => hk.2.2 (by rw [e_]; rfl)⟩ : _ ∧ k_ ≠ go148))) (fun _ hk => hk.2) (.int .i64 (rd t1078 t1084))) (fun _ hk => ⟨hk.1.1, ⟨hk.1.2.1, hk.1.2.2⟩⟩)⟩
                              have n3_ : Aside0 (Kd.R (Kd.int .i64) 3 (w172.setCell ⟨go148, (t1084 : Int).toNat, none⟩ (.int .i64 (rd t1078 t1084))) w.heap.size (fun k_ => some k_ ≠ (.slice (some ad1119) t1078.length co12 : Value).ownBlock ∧ some k_ ≠ (.slice Ao19 t1094.length co19 : Value).ownBlock ∧ some k_ ≠ (.slice Ao28 t1101.length co28 : Value).ownBlock) (.slice (some ⟨go148, 0, none⟩) y1116.length co169) y1120) := ⟨by (with_reducible repeat (first | apply Kd.R_alloc | apply Kd.R_drewN | apply Kd.R_drew)); exact HQ173.out⟩
                              have n4_ : Aside0 ((w172.setCell ⟨go148, (t1084 : Int).toNat, none⟩ (.int .i64 (rd t1078 t1084))).heap[gb1090]? = some (.cells #[.int .i64 t1076, .int .i64 t1077, .slice (some ad1119) t1078.length co12] 25 (0, 0))) := ⟨by (with_reducible repeat (first | refine blk_drewN ?_ _ | refine blk_drew ?_ | refine blk_alloc ?_ _)); refine blk_far ?_ (by have h_ := Kd.R_ne HO1118.out BK1090.out (by decide); intro e_; exact h_ (by rw [e_]; rfl)) _; (with_reducible repeat (first | refine blk_drewN ?_ _ | refine blk_drew ?_ | refine blk_alloc ?_ _)); exact BK1090.out⟩
                              have n5_ : Aside0 ((w172.setCell ⟨go148, (t1084 : Int).toNat, none⟩ (.int .i64 (rd t1078 t1084))).heap[gb1091]? = some (.cells #[.int .i64 t1081, .int .i64 t1082, .int .i64 t1083, .int .i64 t1084, .int .i64 t1085, .int .i64 t1086, .int .i64 t1087, .int .i64 t1088] 41 (0, 0))) := ⟨by (with_reducible repeat (first | refine blk_drewN ?_ _ | refine blk_drew ?_ | refine blk_alloc ?_ _)); refine blk_far ?_ (by have h_ := Kd.R_ne HO1118.out BK1091.out (by decide); intro e_; exact h_ (by rw [e_]; rfl)) _; (with_reducible repeat (first | refine blk_drewN ?_ _ | refine blk_drew ?_ | refine blk_alloc ?_ _)); exact BK1091.out⟩
                              have n6_ : Aside0 ((w172.setCell ⟨go148, (t1084 : Int).toNat, none⟩ (.int .i64 (rd t1078 t1084))).heap[gb1098]? = some (.cells #[.int .i64 t1092, .int .i64 t1093, .slice Ao19 t1094.length co19] 25 (0, 0))) := ⟨by (with_reducible repeat (first | refine blk_drewN ?_ _ | refine blk_drew ?_ | refine blk_alloc ?_ _)); refine blk_far ?_ (by have h_ := Kd.R_ne HO1118.out BK1098.out (by decide); intro e_; exact h_ (by rw [e_]; rfl)) _; (with_reducible repeat (first | refine blk_drewN ?_ _ | refine blk_drew ?_ | refine blk_alloc ?_ _)); exact BK1098.out⟩
                              have n7_ : Aside0 ((w172.setCell ⟨go148, (t1084 : Int).toNat, none⟩ (.int .i64 (rd t1078 t1084))).heap[gb1105]? = some (.cells #[.int .i64 t1099, .int .i64 t1100, .slice Ao28 t1101.length co28] 25 (0, 0))) := ⟨by (with_reducible repeat (first | refine blk_drewN ?_ _ | refine blk_drew ?_ | refine blk_alloc ?_ _)); refine blk_far ?_ (by have h_ := Kd.R_ne HO1118.out BK1105.out (by decide); intro e_; exact h_ (by rw [e_]; rfl)) _; (with_reducible repeat (first | refine blk_drewN ?_ _ | refine blk_drew ?_ | refine blk_alloc ?_ _)); exact BK1105.out⟩
                              have n8_ : Aside0 ((w172.setCell ⟨go148, (t1084 : Int).toNat, none⟩ (.int .i64 (rd t1078 t1084))).heap[gb1112]? = some (.cells #[.int .i64 t1099, .int .i64 t1100, .slice (some ⟨go148, 0, none⟩) y1116.length co169] 25 (0, 0))) := ⟨by (with_reducible repeat (first | refine blk_drewN ?_ _ | refine blk_drew ?_ | refine blk_alloc ?_ _)); refine blk_far ?_ (by have h_ := Kd.R_ne HO1118.out BK1112.out (by decide); intro e_; exact h_ (by rw [e_]; rfl)) _; (with_reducible repeat (first | refine blk_drewN ?_ _ | refine blk_drew ?_ | refine blk_alloc ?_ _)); exact BK1112.out⟩
                              have n9_ : Aside0 (Below w.heap.size w (w172.setCell ⟨go148, (t1084 : Int).toNat, none⟩ (.int .i64 (rd t1078 t1084)))) := ⟨by repeat (first | (with_reducible first | exact HB.out | apply below_alloc | apply pw_below_drewN | apply below_drew1 | refine below_set ?_ GB148.out | refine below_set ?_ GE1090.out | refine below_set ?_ GE1091.out | refine below_set ?_ GE1098.out | refine below_set ?_ GE1105.out | refine below_set ?_ GE1112.out) | exact HB.out)⟩
                              (try clear HO_1091002)
                              (try clear HO_1099002)
                              (try clear HO_1106002)
                              (try clear HO1118)
                              (try clear BK1090)
                              (try clear BK1091)
                              (try clear BK1098)
                              (try clear BK1105)
                              (try clear BK1112)
                              (try clear HB)
                              generalize (w172.setCell ⟨go148, (t1084 : Int).toNat, none⟩ (.int .i64 (rd t1078 t1084))) = w174 at n0_ n1_ n2_ n3_ n4_ n5_ n6_ n7_ n8_ n9_ ⊢
                              have HO_1091002 := n0_
                              have HO_1099002 := n1_
                              have HO_1106002 := n2_
                              have HO1118 := n3_
                              have BK1090 := n4_
                              have BK1091 := n5_
                              have BK1098 := n6_
                              have BK1105 := n7_
                              have BK1112 := n8_
                              have HB := n9_
                              clear n0_ n1_ n2_ n3_ n4_ n5_ n6_ n7_ n8_ n9_
                              have n0_ := Aside0.mk (Kd.Q_drew HO_1091002.out)
                              have n1_ := Aside0.mk (Kd.Q_drew HO_1099002.out)
                              have n2_ := Aside0.mk (Kd.Q_drew HO_1106002.out)
                              have n3_ := Aside0.mk (Kd.R_drew HO1118.out)
                              have n4_ := Aside0.mk (blk_drew BK1090.out)
                              have n5_ := Aside0.mk (blk_drew BK1091.out)
                              have n6_ := Aside0.mk (blk_drew BK1098.out)
                              have n7_ := Aside0.mk (blk_drew BK1105.out)
                              have n8_ := Aside0.mk (blk_drew BK1112.out)
                              have n9_ := Aside0.mk (below_drew1 HB.out)
                              clear HO_1091002
                              clear HO_1099002
                              clear HO_1106002
                              clear HO1118
                              clear BK1090
                              clear BK1091
                              clear BK1098
                              clear BK1105
                              clear BK1112
                              clear HB
                              have HO_1091002 := n0_
                              have HO_1099002 := n1_
                              have HO_1106002 := n2_
                              have HO1118 := n3_
                              have BK1090 := n4_
                              have BK1091 := n5_
                              have BK1098 := n6_
                              have BK1105 := n7_
                              have BK1112 := n8_
                              have HB := n9_
                              clear n0_ n1_ n2_ n3_ n4_ n5_ n6_ n7_ n8_ n9_
                              have p1121 : 0 ≤ (t1084 : Int) := of_decide_eq_true (by first | (with_reducible assumption) | assumption)
                              have q1121 : t1084 < (t1101.length : Int) := of_decide_eq_true (by first | (with_reducible assumption) | assumption)
                              obtain ⟨ad1121, e1121, hx1121_0⟩ := Kd.at_int (Kd.Q_reads' HO_1106002.out).2.2 t1084 p1121 q1121
                              cases e1121
                              replace p1121 := eq_true p1121
                              replace q1121 := eq_true q1121
                              refine start_ (n := 15) (S := fun w' => w'.cell? ⟨gb1105, 0, none⟩ = some (.int .i64 t1099) ∧ w'.cell? ⟨gb1105, 1, none⟩ = some (.int .i64 t1100) ∧ w'.cell? ⟨gb1105, 2, none⟩ = some (.slice (some ad1121) t1101.length co28) ∧ w'.cell? ⟨gb1091, 0, none⟩ = some (.int .i64 t1081) ∧ w'.cell? ⟨gb1091, 1, none⟩ = some (.int .i64 t1082) ∧ w'.cell? ⟨gb1091, 2, none⟩ = some (.int .i64 t1083) ∧ w'.cell? ⟨gb1091, 3, none⟩ = some (.int .i64 t1084) ∧ w'.cell? ⟨gb1091, 4, none⟩ = some (.int .i64 t1085) ∧ w'.cell? ⟨gb1091, 5, none⟩ = some (.int .i64 t1086) ∧ w'.cell? ⟨gb1091, 6, none⟩ = some (.int .i64 t1087) ∧ w'.cell? ⟨gb1091, 7, none⟩ = some (.int .i64 t1088) ∧ w'.cell? ⟨gb1112, 0, none⟩ = some (.int .i64 t1099) ∧ w'.cell? ⟨gb1112, 1, none⟩ = some (.int .i64 t1100) ∧ w'.cell? ⟨gb1112, 2, none⟩ = some (.slice (some ⟨go148, 0, none⟩) y1116.length co169) ∧ w'.cell? ⟨gb1090, 0, none⟩ = some (.int .i64 t1076) ∧ w'.cell? ⟨gb1090, 1, none⟩ = some (.int .i64 t1077) ∧ w'.cell? ⟨gb1090, 2, none⟩ = some (.slice (some ad1119) t1078.length co12) ∧ w'.cell? (ad1121.add (t1084).toNat) = some (.int .i64 (rd t1101 t1084))) (ds := []) #[false, false, false, false, false, false, false, false, false, false, false, false, false, false, false] (by kernel_rfl) rfl rfl ⟨(blk_cell BK1105.out 0).trans rfl, (blk_cell BK1105.out 1).trans rfl, (blk_cell BK1105.out 2).trans rfl, (blk_cell BK1091.out 0).trans rfl, (blk_cell BK1091.out 1).trans rfl, (blk_cell BK1091.out 2).trans rfl, (blk_cell BK1091.out 3).trans rfl, (blk_cell BK1091.out 4).trans rfl, (blk_cell BK1091.out 5).trans rfl, (blk_cell BK1091.out 6).trans rfl, (blk_cell BK1091.out 7).trans rfl, (blk_cell BK1112.out 0).trans rfl, (blk_cell BK1112.out 1).trans rfl, (blk_cell BK1112.out 2).trans rfl, (blk_cell BK1090.out 0).trans rfl, (blk_cell BK1090.out 1).trans rfl, (blk_cell BK1090.out 2).trans rfl, hx1121_0⟩ (fun hHeld => ?_); refine with_tabW laws_FnRecDo.tab15 laws_FnRecDo.bits15 (fun HT_ HW_ => ?_)
                              generalize w174.drew = w175 at HO_1091002 HO_1099002 HO_1106002 HO1118 BK1090 BK1091 BK1098 BK1105 BK1112 HB HQ173 hx1121_0 hHeld ⊢
                              refine pure_ (i := 0) (N := some 116) (v := ?_) (a' := ?_) #[true, false, false, false, false, false, false, false, false, false, false, false, false, false, false] rfl rfl (any_of HT_.out (by kernel_rfl)) (fun _ _ _ h => h) (Or.inl ⟨by rfl, ?_⟩) ?_ ?_
                              rotate_left
                              · intro w'
                                go_simp
                                with_reducible rfl
                              rotate_left
                              · simp only [Act.put, List.setIfInBounds_toArray, List.set_cons_zero, List.set_cons_succ, i64_w, i32_w]
                                rfl
                              refine pure_ (i := 2) (N := some 118) (v := ?_) (a' := ?_) #[true, false, true, false, false, false, false, false, false, false, false, false, false, false, false] rfl rfl (any_of HT_.out (by kernel_rfl)) (fun _ _ _ h => h) (Or.inl ⟨by rfl, ?_⟩) ?_ ?_
                              rotate_left
                              · intro w'
                                go_simp
                                with_reducible rfl
                              rotate_left
                              · simp only [Act.put, List.setIfInBounds_toArray, List.set_cons_zero, List.set_cons_succ, i64_w, i32_w]
                                rfl
                              refine pure_ (i := 6) (N := some 122) (v := ?_) (a' := ?_) #[true, false, true, false, false, false, true, false, false, false, false, false, false, false, false] rfl rfl (any_of HT_.out (by kernel_rfl)) (fun _ _ _ h => h) (Or.inl ⟨by rfl, ?_⟩) ?_ ?_
                              rotate_left
                              · intro w'
                                go_simp
                                with_reducible rfl
                              rotate_left
                              · simp only [Act.put, List.setIfInBounds_toArray, List.set_cons_zero, List.set_cons_succ, i64_w, i32_w]
                                rfl
                              refine take_ (i := 1) (N := some 117) (v := ?_) (a' := ?_) #[true, true, true, false, false, false, true, false, false, false, false, false, false, false, false] rfl rfl (take_ofW HT_.out HW_.out (by kernel_rfl)) (fun _ _ _ h => h) (Or.inl ⟨by rfl, ?_⟩) hHeld ?_ ?_
                              rotate_left
                              · rintro w' ⟨s0, s1, s2, s3, s4, s5, s6, s7, s8, s9, s10, s11, s12, s13, s14, s15, s16, s17⟩
                                go_simp
                                with_reducible rfl
                              rotate_left
                              · simp only [Act.put, List.setIfInBounds_toArray, List.set_cons_zero, List.set_cons_succ, i64_w, i32_w]
                                rfl
                              refine take_ (i := 3) (N := some 119) (v := ?_) (a' := ?_) #[true, true, true, true, false, false, true, false, false, false, false, false, false, false, false] rfl rfl (take_ofW HT_.out HW_.out (by kernel_rfl)) (fun _ _ _ h => h) (Or.inl ⟨by rfl, ?_⟩) hHeld ?_ ?_
                              rotate_left
                              · rintro w' ⟨s0, s1, s2, s3, s4, s5, s6, s7, s8, s9, s10, s11, s12, s13, s14, s15, s16, s17⟩
                                go_simp
                                with_reducible rfl
                              rotate_left
                              · simp only [Act.put, List.setIfInBounds_toArray, List.set_cons_zero, List.set_cons_succ, i64_w, i32_w]
                                rfl
                              refine pure_ (i := 4) (N := some 120) (v := ?_) (a' := ?_) #[true, true, true, true, true, false, true, false, false, false, false, false, false, false, false] rfl rfl (any_of HT_.out (by kernel_rfl)) (fun _ _ _ h => h) (Or.inl ⟨by rfl, ?_⟩) ?_ ?_
                              rotate_left
                              · intro w'
                                go_simp
                                with_reducible rfl
                              rotate_left
                              · simp only [Act.put, List.setIfInBounds_toArray, List.set_cons_zero, List.set_cons_succ, i64_w, i32_w]
                                rfl
                              refine take_ (i := 5) (N := some 121) (v := ?_) (a' := ?_) #[true, true, true, true, true, true, true, false, false, false, false, false, false, false, false] rfl rfl (take_ofW HT_.out HW_.out (by kernel_rfl)) (fun _ _ _ h => h) (Or.inl ⟨by rfl, ?_⟩) hHeld ?_ ?_
                              rotate_left
                              · rintro w' ⟨s0, s1, s2, s3, s4, s5, s6, s7, s8, s9, s10, s11, s12, s13, s14, s15, s16, s17⟩
                                go_simp
                                with_reducible rfl
                              rotate_left
                              · simp only [Act.put, List.setIfInBounds_toArray, List.set_cons_zero, List.set_cons_succ, i64_w, i32_w]
                                rfl
                              refine take_ (i := 7) (N := some 123) (v := ?_) (a' := ?_) #[true, true, true, true, true, true, true, true, false, false, false, false, false, false, false] rfl rfl (take_ofW HT_.out HW_.out (by kernel_rfl)) (fun _ _ _ h => h) (Or.inl ⟨by rfl, ?_⟩) hHeld ?_ ?_
                              rotate_left
                              · rintro w' ⟨s0, s1, s2, s3, s4, s5, s6, s7, s8, s9, s10, s11, s12, s13, s14, s15, s16, s17⟩
                                go_simp
                                with_reducible rfl
                              rotate_left
                              · simp only [Act.put, List.setIfInBounds_toArray, List.set_cons_zero, List.set_cons_succ, i64_w, i32_w]
                                rfl
                              refine pure_ (i := 8) (N := some 124) (v := ?_) (a' := ?_) #[true, true, true, true, true, true, true, true, true, false, false, false, false, false, false] rfl rfl (any_of HT_.out (by kernel_rfl)) (fun _ _ _ h => h) (Or.inl ⟨by rfl, ?_⟩) ?_ ?_
                              rotate_left
                              · intro w'
                                go_simp
                                with_reducible rfl
                              rotate_left
                              · simp only [Act.put, List.setIfInBounds_toArray, List.set_cons_zero, List.set_cons_succ, i64_w, i32_w]
                                rfl
                              refine pure_ (i := 9) (N := some 125) (v := ?_) (a' := ?_) #[true, true, true, true, true, true, true, true, true, true, false, false, false, false, false] rfl rfl (any_of HT_.out (by kernel_rfl)) (fun _ _ _ h => h) (Or.inl ⟨by rfl, ?_⟩) ?_ ?_
                              rotate_left
                              · intro w'
                                go_simp
                                with_reducible rfl
                              rotate_left
                              · simp only [Act.put, List.setIfInBounds_toArray, List.set_cons_zero, List.set_cons_succ, i64_w, i32_w]
                                rfl
                              refine take_ (i := 10) (N := some 126) (v := ?_) (a' := ?_) #[true, true, true, true, true, true, true, true, true, true, true, false, false, false, false] rfl rfl (take_ofW HT_.out HW_.out (by kernel_rfl)) (fun _ _ _ h => h) (Or.inl ⟨by rfl, ?_⟩) hHeld ?_ ?_
                              rotate_left
                              · rintro w' ⟨s0, s1, s2, s3, s4, s5, s6, s7, s8, s9, s10, s11, s12, s13, s14, s15, s16, s17⟩
                                go_simp
                                with_reducible rfl
                              rotate_left
                              · simp only [Act.put, List.setIfInBounds_toArray, List.set_cons_zero, List.set_cons_succ, i64_w, i32_w]
                                rfl
                              refine take_ (i := 11) (N := some 127) (v := ?_) (a' := ?_) #[true, true, true, true, true, true, true, true, true, true, true, true, false, false, false] rfl rfl (take_ofW HT_.out HW_.out (by kernel_rfl)) (fun _ _ _ h => h) (Or.inl ⟨by rfl, ?_⟩) hHeld ?_ ?_
                              rotate_left
                              · rintro w' ⟨s0, s1, s2, s3, s4, s5, s6, s7, s8, s9, s10, s11, s12, s13, s14, s15, s16, s17⟩
                                go_simp
                                with_reducible rfl
                              rotate_left
                              · simp only [Act.put, List.setIfInBounds_toArray, List.set_cons_zero, List.set_cons_succ, i64_w, i32_w]
                                rfl
                              refine one_ (i := 12) (N := some 128) #[true, true, true, true, true, true, true, true, true, true, true, true, true, false, false] rfl rfl (one_of HT_.out (by kernel_rfl)) (by decide) (fun K hK => ?_)
                              refine goes_ Try.func43 (by kernel_rfl) rfl #[.agg #[.int .i64 t1099, .int .i64 t1100, .slice (some ⟨go148, 0, none⟩) y1120.length co169], .agg #[.int .i64 t1076, .int .i64 t1077, .slice (some ad1119) t1078.length co12]] (by rfl) rfl rfl (by (try simp only [List.map_toArray, List.map_cons, List.map_nil]); first | done | (rw [show y1120.length = y1116.length from (Kd.R_reads' HO1118.out).1.symm] <;> rfl) | rfl | (simp only [List.length_drop, List.length_take]; rfl)) ?_
                              with_reducible refine (laws_ltHas.calls kj58 t1099 t1100 _ _ y1120 t1076 t1077 _ _ t1078 t1122 _ ?side1 ?side2 ?side3 ?side4 A151.out).mono ?_
                              (case side1 => repeat (first | exact (Kd.R_reads' HO1118.out).2.2 | (with_reducible refine Kd.C_alloc ?_ _) | (with_reducible refine Kd.C_drewN ?_ _) | (with_reducible refine Kd.C_drew ?_)))
                              (case side2 => rw [show y1120.length = y1116.length from (Kd.R_reads' HO1118.out).1.symm]; exact (Kd.R_reads' HO1118.out).2.1)
                              (case side3 => repeat (first | exact (Kd.Q_reads' HO_1091002.out).2.2 | (with_reducible refine Kd.C_alloc ?_ _) | (with_reducible refine Kd.C_drewN ?_ _) | (with_reducible refine Kd.C_drew ?_)))
                              (case side4 => exact (Kd.Q_reads' HO_1091002.out).2.1)
                              rintro e w176 ⟨rfl, hb⟩
                              have HS17_ := (hb.cell (World.block_lt_of_cell? _ _ (hHeld.2.2.2.2.2.2.2.2.2.2.2.2.2.2.2.2.2))).trans (hHeld.2.2.2.2.2.2.2.2.2.2.2.2.2.2.2.2.2)
                              refine ⟨_, rfl, ?_⟩
                              have n0_ := Aside0.mk (Kd.Q_below (by (with_reducible repeat (first | apply Kd.Q_alloc | apply Kd.Q_drewN | apply Kd.Q_drew)); exact HO_1091002.out) hb)
                              have n1_ := Aside0.mk (Kd.Q_below (by (with_reducible repeat (first | apply Kd.Q_alloc | apply Kd.Q_drewN | apply Kd.Q_drew)); exact HO_1099002.out) hb)
                              have n2_ := Aside0.mk (Kd.Q_below (by (with_reducible repeat (first | apply Kd.Q_alloc | apply Kd.Q_drewN | apply Kd.Q_drew)); exact HO_1106002.out) hb)
                              have n3_ := Aside0.mk (Kd.R_below (by (with_reducible repeat (first | apply Kd.R_alloc | apply Kd.R_drewN | apply Kd.R_drew)); exact HO1118.out) hb)
                              have n4_ := Aside0.mk (blk_below (g := gb1090) (o := .cells #[.int .i64 t1076, .int .i64 t1077, .slice (some ad1119) t1078.length co12] 25 (0, 0)) (by (with_reducible repeat (first | refine blk_drewN ?_ _ | refine blk_drew ?_ | refine blk_alloc ?_ _)); exact BK1090.out) hb)
                              have n5_ := Aside0.mk (blk_below (g := gb1091) (o := .cells #[.int .i64 t1081, .int .i64 t1082, .int .i64 t1083, .int .i64 t1084, .int .i64 t1085, .int .i64 t1086, .int .i64 t1087, .int .i64 t1088] 41 (0, 0)) (by (with_reducible repeat (first | refine blk_drewN ?_ _ | refine blk_drew ?_ | refine blk_alloc ?_ _)); exact BK1091.out) hb)
                              have n6_ := Aside0.mk (blk_below (g := gb1098) (o := .cells #[.int .i64 t1092, .int .i64 t1093, .slice Ao19 t1094.length co19] 25 (0, 0)) (by (with_reducible repeat (first | refine blk_drewN ?_ _ | refine blk_drew ?_ | refine blk_alloc ?_ _)); exact BK1098.out) hb)
                              have n7_ := Aside0.mk (blk_below (g := gb1105) (o := .cells #[.int .i64 t1099, .int .i64 t1100, .slice (some ad1121) t1101.length co28] 25 (0, 0)) (by (with_reducible repeat (first | refine blk_drewN ?_ _ | refine blk_drew ?_ | refine blk_alloc ?_ _)); exact BK1105.out) hb)
                              have n8_ := Aside0.mk (blk_below (g := gb1112) (o := .cells #[.int .i64 t1099, .int .i64 t1100, .slice (some ⟨go148, 0, none⟩) y1116.length co169] 25 (0, 0)) (by (with_reducible repeat (first | refine blk_drewN ?_ _ | refine blk_drew ?_ | refine blk_alloc ?_ _)); exact BK1112.out) hb)
                              have n9_ := Aside0.mk (below_step (by repeat (first | (with_reducible first | exact HB.out | apply below_alloc | apply pw_below_drewN | apply below_drew1 | refine below_set ?_ GE1090.out | refine below_set ?_ GE1091.out | refine below_set ?_ GE1098.out | refine below_set ?_ GE1105.out | refine below_set ?_ GE1112.out) | exact HB.out)) hb)
                              clear HO_1091002
                              clear HO_1099002
                              clear HO_1106002
                              clear HO1118
                              clear BK1090
                              clear BK1091
                              clear BK1098
                              clear BK1105
                              clear BK1112
                              clear HB
                              have HO_1091002 := n0_
                              have HO_1099002 := n1_
                              have HO_1106002 := n2_
                              have HO1118 := n3_
                              have BK1090 := n4_
                              have BK1091 := n5_
                              have BK1098 := n6_
                              have BK1105 := n7_
                              have BK1112 := n8_
                              have HB := n9_
                              clear n0_ n1_ n2_ n3_ n4_ n5_ n6_ n7_ n8_ n9_
                              (try clear hb)
                              (try clear hb2)
                              (try clear hk)
                              (try clear hi)
                              refine hK.out _ _ ⟨(blk_cell BK1105.out 0).trans rfl, (blk_cell BK1105.out 1).trans rfl, (blk_cell BK1105.out 2).trans rfl, (blk_cell BK1091.out 0).trans rfl, (blk_cell BK1091.out 1).trans rfl, (blk_cell BK1091.out 2).trans rfl, (blk_cell BK1091.out 3).trans rfl, (blk_cell BK1091.out 4).trans rfl, (blk_cell BK1091.out 5).trans rfl, (blk_cell BK1091.out 6).trans rfl, (blk_cell BK1091.out 7).trans rfl, (blk_cell BK1112.out 0).trans rfl, (blk_cell BK1112.out 1).trans rfl, (blk_cell BK1112.out 2).trans rfl, (blk_cell BK1090.out 0).trans rfl, (blk_cell BK1090.out 1).trans rfl, (blk_cell BK1090.out 2).trans rfl, HS17_⟩ (fun hHeld => ?_)
                              clear hK K
                              refine norm_ (a' := ?_) ?_ ?_
                              rotate_left
                              · show Act.put _ (some 128) _ = _
                                simp only [Act.put, List.setIfInBounds_toArray, List.set_cons_zero, List.set_cons_succ, i64_w, i32_w]
                                rfl
                              refine pure_ (i := 13) (N := some 129) (v := ?_) (a' := ?_) #[true, true, true, true, true, true, true, true, true, true, true, true, true, true, false] rfl rfl (any_of HT_.out (by kernel_rfl)) (fun _ _ _ h => h) (Or.inl ⟨by rfl, ?_⟩) ?_ ?_
                              rotate_left
                              · intro w'
                                go_simp
                                with_reducible rfl
                              rotate_left
                              · simp only [Act.put, List.setIfInBounds_toArray, List.set_cons_zero, List.set_cons_succ, i64_w, i32_w]
                                rfl
                              refine pure_ (i := 14) (N := some 2) (v := ?_) (a' := ?_) #[true, true, true, true, true, true, true, true, true, true, true, true, true, true, true] rfl rfl (any_of HT_.out (by kernel_rfl)) (fun _ _ _ h => h) (Or.inl ⟨by rfl, ?_⟩) ?_ ?_
                              rotate_left
                              · intro w'
                                go_simp
                                with_reducible rfl
                              rotate_left
                              · simp only [Act.put, List.setIfInBounds_toArray, List.set_cons_zero, List.set_cons_succ, i64_w, i32_w]
                                rfl
                              refine done_ (done_of HT_.out (by kernel_rfl)) ?_
                              try go_wp2
                              go_ret
                              exact ⟨by first | rfl | (simp [errW_none, errW_some] <;> rfl) | (simp [*, errW_none, errW_some] <;> rfl), by repeat (first | (with_reducible first | exact HB.out | apply below_alloc | apply pw_below_drewN | apply below_drew1 | refine below_set ?_ GE1090.out | refine below_set ?_ GE1091.out | refine below_set ?_ GE1098.out | refine below_set ?_ GE1105.out | refine below_set ?_ GE1112.out) | exact HB.out)⟩
                            · rw [if_neg c150] at H
                              have c150b0 : ((rd t1101 t1084) == t1086) = false := beq_eq_false_iff_ne.mpr c150
                              have c150b1 : ((rd t1101 t1084) != t1086) = true := bne_iff_ne.mpr c150
                              obtain rfl := Option.some.inj H
                              exact absurd hT_.out (by simp)
                          · rw [if_neg c149] at H
                            exact absurd H (by simp)
                        · rw [if_neg c147] at H
                          exact absurd H (by simp)
                      · rw [if_neg c146] at H
                        exact absurd H (by simp)
                    · rw [if_neg c145] at H
                      exact absurd H (by simp)
                  · rw [if_neg c144] at H
                    exact absurd H (by simp)

end Go.Proofs.Ytcefiblpnegepaa.Pr
