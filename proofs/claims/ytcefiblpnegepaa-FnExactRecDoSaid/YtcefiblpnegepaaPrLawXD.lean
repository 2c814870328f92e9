-- Laid by a program (extract.py) out of this seat's translation: contracts of a few functions, a text a function; Lean checks them.
import Derived.Test.YtcefiblpnegepaaPrK
import Derived.Test.YtcefiblpnegepaaXM
import Derived.Test.YtcefiblpnegepaaPrSRD
import Derived.Test.YtcefiblpnegepaaPrIRD
import Derived.Test.YtcefiblpnegepaaSq
namespace Go.Proofs.Ytcefiblpnegepaa.Pr
open Go.RowKit Go.Proofs.YtcefiblpnegepaaW.PrintWords Go.Proofs.YtcefiblpnegepaaW.PrintLast Go.Proofs.YtcefiblpnegepaaW.PrintMore
attribute [local go_sem] max2_int min2_int max_two min_two max_three min_three max_four min_four
set_option linter.unusedVariables false
set_option linter.unusedSimpArgs false
/-! ### laws_FnExactRecDo: function 9 -/
mutual
def laws_FnExactRecDo.j0 : Nat → Int → Bool → Bool → Bool → Int → Int → List Int → Int → Int → Int → Int → Int → Int → Int → Int → Int → Int → List Int → Int → Int → List Int → Int → Int → List Int → Option (Bool)
 | 0, _, _, _, _, _, _, _, _, _, _, _, _, _, _, _, _, _, _, _, _, _, _, _, _ => none
 | k + 1, x2, x9, x12, x50, x753000, x753001, x753002, x754000, x754001, x754002, x754003, x754004, x754005, x754006, x754007, x775000, x775001, x775002, x781000, x781001, x781002, x796000, x796001, x796002 => if x50 = true then (some false) else ((laws_toPage.f k x753000 x753001 x753002).bind fun bt797 => ((laws_eqPage.f k x781000 x781001 x781002 bt797.1 bt797.2.1 bt797.2.2).bind fun t802 => (if t802 = true then ((laws_markPage.f k x781000 x781001 x781002 1).bind fun bt803 => (if bt803.1 < 0 then (laws_FnExactRecDo.j1 k x2 x9 true x753000 x753001 x753002 x754000 x754001 x754002 x754003 x754004 x754005 x754006 x754007 x775000 x775001 x775002 x796000 x796001 x796002) else ((laws_eqPage.f k x796000 x796001 x796002 x775000 x775001 x775002).bind fun t805 => (if t805 = true then (laws_FnExactRecDo.j1 k x2 x9 (x12 != x9) x753000 x753001 x753002 x754000 x754001 x754002 x754003 x754004 x754005 x754006 x754007 x775000 x775001 x775002 x796000 x796001 x796002) else (laws_FnExactRecDo.j1 k x2 x9 true x753000 x753001 x753002 x754000 x754001 x754002 x754003 x754004 x754005 x754006 x754007 x775000 x775001 x775002 x796000 x796001 x796002))))) else (some false))))
def laws_FnExactRecDo.j1 : Nat → Int → Bool → Bool → Int → Int → List Int → Int → Int → Int → Int → Int → Int → Int → Int → Int → Int → List Int → Int → Int → List Int → Option (Bool)
 | 0, _, _, _, _, _, _, _, _, _, _, _, _, _, _, _, _, _, _, _, _ => none
 | k + 1, x2, x9, x71, x753000, x753001, x753002, x754000, x754001, x754002, x754003, x754004, x754005, x754006, x754007, x775000, x775001, x775002, x796000, x796001, x796002 => if x71 = true then (some false) else ((laws_markPage.f k x796000 x796001 x796002 1).bind fun bt806 => ((laws_heldPage.f k x796000 x796001 bt806.2 1).bind fun t808 => (if t808 < 0 then (some false) else (if t808 = bt806.1 then ((laws_toPage.f k x753000 x753001 x753002).bind fun bt809 => ((laws_toRec.f x754000 x754001 x754002 x754003 x754004 x754005 x754006 x754007).bind fun bt814 => ((impl_RecDo.f k bt809.1 bt809.2.1 bt809.2.2 bt814.1 bt814.2.1 bt814.2.2.1 bt814.2.2.2.1 bt814.2.2.2.2.1 bt814.2.2.2.2.2.1 bt814.2.2.2.2.2.2.1 bt814.2.2.2.2.2.2.2 x2).bind fun bt822 => ((laws_eqPage.f k bt822.1 bt822.2.1 bt822.2.2.1 x775000 x775001 x775002).bind fun t829 => (if t829 = true then (laws_FnExactRecDo.j2 k bt806.1 (bt822.2.2.2 != x9) x796000 x796001 bt806.2) else (laws_FnExactRecDo.j2 k bt806.1 true x796000 x796001 bt806.2)))))) else (some false)))))
def laws_FnExactRecDo.j2 : Nat → Int → Bool → Int → Int → List Int → Option (Bool)
 | 0, _, _, _, _, _ => none
 | k + 1, x14, x100, x796000, x796001, x796002 => if x100 = true then (some false) else ((laws_heldPage.f k x796000 x796001 x796002 1).bind fun t830 => (if t830 < 0 then (some false) else (if t830 = x14 then (some true) else (some false))))
end
def laws_FnExactRecDo.f (k : Nat) (a0_0 : Int) (a0_1 : Int) (l0_2 : List Int) (a1_0 : Int) (a1_1 : Int) (a1_2 : Int) (a1_3 : Int) (a1_4 : Int) (a1_5 : Int) (a1_6 : Int) (a1_7 : Int) (a2 : Int) : Option (Bool) := (laws_szPage.f a0_0 a0_1 l0_2 1048576).bind fun t754 => (if t754 < 0 then (some true) else ((laws_toPage.f k a0_0 a0_1 l0_2).bind fun bt755 => ((laws_toRec.f a1_0 a1_1 a1_2 a1_3 a1_4 a1_5 a1_6 a1_7).bind fun bt760 => ((spec_RecDo.f k bt755.1 bt755.2.1 bt755.2.2 bt760.1 bt760.2.1 bt760.2.2.1 bt760.2.2.2.1 bt760.2.2.2.2.1 bt760.2.2.2.2.2.1 bt760.2.2.2.2.2.2.1 bt760.2.2.2.2.2.2.2 a2).bind fun bt768 => ((laws_toPage.f k a0_0 a0_1 l0_2).bind fun bt775 => ((laws_toRec.f a1_0 a1_1 a1_2 a1_3 a1_4 a1_5 a1_6 a1_7).bind fun bt781 => ((impl_RecDo.f k bt775.1 bt775.2.1 bt775.2.2 bt781.1 bt781.2.1 bt781.2.2.1 bt781.2.2.2.1 bt781.2.2.2.2.1 bt781.2.2.2.2.2.1 bt781.2.2.2.2.2.2.1 bt781.2.2.2.2.2.2.2 a2).bind fun bt789 => ((laws_eqPage.f k bt789.1 bt789.2.1 bt789.2.2.1 bt768.1 bt768.2.1 bt768.2.2.1).bind fun t796 => (if t796 = true then (laws_FnExactRecDo.j0 k a2 bt768.2.2.2 bt789.2.2.2 (bt789.2.2.2 != bt768.2.2.2) a0_0 a0_1 l0_2 a1_0 a1_1 a1_2 a1_3 a1_4 a1_5 a1_6 a1_7 bt768.1 bt768.2.1 bt768.2.2.1 bt775.1 bt775.2.1 bt775.2.2 bt789.1 bt789.2.1 bt789.2.2.1) else (laws_FnExactRecDo.j0 k a2 bt768.2.2.2 bt789.2.2.2 true a0_0 a0_1 l0_2 a1_0 a1_1 a1_2 a1_3 a1_4 a1_5 a1_6 a1_7 bt768.1 bt768.2.1 bt768.2.2.1 bt775.1 bt775.2.1 bt775.2.2 bt789.1 bt789.2.1 bt789.2.2.1))))))))))
def laws_FnExactRecDo.T5 : Bool × List (List Nat × List Nat) := (true, [([], []), ([0], [0]), ([], []), ([2, 1], [2]), ([], []), ([1, 3, 4, 3], [1, 3, 4]), ([5], [5]), ([6], [6]), ([6], [6]), ([], []), ([9, 7, 5, 0, 1, 2, 3, 4, 5, 6, 7, 9], [7, 9]), ([8, 10, 0, 1, 2, 3, 4, 5, 6, 7, 8, 9, 10], [8])])
def laws_FnExactRecDo.B5 : List Nat := [0, 1, 0, 7, 0, 31, 63, 127, 127, 0, 767, 2047]
theorem laws_FnExactRecDo.tab5 : rtab .any (opsOf Try.f9 5) = laws_FnExactRecDo.T5 := by kernel_rfl
theorem laws_FnExactRecDo.bits5 : waitsOk laws_FnExactRecDo.T5.2 laws_FnExactRecDo.B5 = true := by kernel_rfl
def laws_FnExactRecDo.T7 : Bool × List (List Nat × List Nat) := (true, [([], []), ([], []), ([1], [1]), ([], []), ([0, 2, 3, 2], [0, 2, 3]), ([4], [4]), ([5], [5]), ([5], [5]), ([], []), ([8, 6, 4, 0, 1, 2, 3, 4, 5, 6, 8], [6, 8]), ([7, 9, 0, 1, 2, 3, 4, 5, 6, 7, 8, 9], [7])])
def laws_FnExactRecDo.B7 : List Nat := [0, 0, 2, 0, 15, 31, 63, 63, 0, 383, 1023]
theorem laws_FnExactRecDo.tab7 : rtab .any (opsOf Try.f9 7) = laws_FnExactRecDo.T7 := by kernel_rfl
theorem laws_FnExactRecDo.bits7 : waitsOk laws_FnExactRecDo.T7.2 laws_FnExactRecDo.B7 = true := by kernel_rfl
def laws_FnExactRecDo.T24 : Bool × List (List Nat × List Nat) := (true, [([], []), ([0], [0]), ([], []), ([2, 1], [2]), ([], []), ([1, 3, 4, 3], [1, 3, 4]), ([5], [5]), ([6], [6]), ([6], [6]), ([], []), ([9, 7, 5, 0, 1, 2, 3, 4, 5, 6, 7, 9], [7, 9]), ([8, 10, 0, 1, 2, 3, 4, 5, 6, 7, 8, 9, 10], [8])])
def laws_FnExactRecDo.B24 : List Nat := [0, 1, 0, 7, 0, 31, 63, 127, 127, 0, 767, 2047]
theorem laws_FnExactRecDo.tab24 : rtab .any (opsOf Try.f9 24) = laws_FnExactRecDo.T24 := by kernel_rfl
theorem laws_FnExactRecDo.bits24 : waitsOk laws_FnExactRecDo.T24.2 laws_FnExactRecDo.B24 = true := by kernel_rfl
set_option maxHeartbeats 8000000 in
set_option maxRecDepth 100000 in
theorem laws_FnExactRecDo.calls (k : Nat) (a0_0 : Int) (a0_1 : Int) (A0_2 : Option Addr) (c0_2 : Nat) (l0_2 : List Int) (a1_0 : Int) (a1_1 : Int) (a1_2 : Int) (a1_3 : Int) (a1_4 : Int) (a1_5 : Int) (a1_6 : Int) (a1_7 : Int) (a2 : Int) (r : Bool) (w : World) (hr0_2 : Kd.C (Kd.int .i64) w A0_2 l0_2.length l0_2) (hc0_2 : l0_2.length ≤ c0_2) (h : laws_FnExactRecDo.f k a0_0 a0_1 l0_2 a1_0 a1_1 a1_2 a1_3 a1_4 a1_5 a1_6 a1_7 a2 = some r) (hT_ : Aside0 (r = true)) :
  Calls Try.prog 9 #[.agg #[.int .i64 a0_0, .int .i64 a0_1, .slice A0_2 l0_2.length c0_2], .agg #[.int .i64 a1_0, .int .i64 a1_1, .int .i64 a1_2, .int .i64 a1_3, .int .i64 a1_4, .int .i64 a1_5, .int .i64 a1_6, .int .i64 a1_7], .int .i64 a2] w fun e w' => e = .returned (.bool r) ∧ Below w.heap.size w w' := by
 have hu57 := Try.underlying57
 have hu58 := Try.underlying58
 have hu25 := Try.underlying25
 have HR0_2 := az hr0_2
 have HC0_2 := az hc0_2
 clear hr0_2 hc0_2
 have HB := az (Below.refl w.heap.size w)
 have H : ((laws_szPage.f a0_0 a0_1 l0_2 1048576).bind fun t754 => (if t754 < 0 then (some true) else ((laws_toPage.f k a0_0 a0_1 l0_2).bind fun bt755 => ((laws_toRec.f a1_0 a1_1 a1_2 a1_3 a1_4 a1_5 a1_6 a1_7).bind fun bt760 => ((spec_RecDo.f k bt755.1 bt755.2.1 bt755.2.2 bt760.1 bt760.2.1 bt760.2.2.1 bt760.2.2.2.1 bt760.2.2.2.2.1 bt760.2.2.2.2.2.1 bt760.2.2.2.2.2.2.1 bt760.2.2.2.2.2.2.2 a2).bind fun bt768 => ((laws_toPage.f k a0_0 a0_1 l0_2).bind fun bt775 => ((laws_toRec.f a1_0 a1_1 a1_2 a1_3 a1_4 a1_5 a1_6 a1_7).bind fun bt781 => ((impl_RecDo.f k bt775.1 bt775.2.1 bt775.2.2 bt781.1 bt781.2.1 bt781.2.2.1 bt781.2.2.2.1 bt781.2.2.2.2.1 bt781.2.2.2.2.2.1 bt781.2.2.2.2.2.2.1 bt781.2.2.2.2.2.2.2 a2).bind fun bt789 => ((laws_eqPage.f k bt789.1 bt789.2.1 bt789.2.2.1 bt768.1 bt768.2.1 bt768.2.2.1).bind fun t796 => (if t796 = true then (laws_FnExactRecDo.j0 k a2 bt768.2.2.2 bt789.2.2.2 (bt789.2.2.2 != bt768.2.2.2) a0_0 a0_1 l0_2 a1_0 a1_1 a1_2 a1_3 a1_4 a1_5 a1_6 a1_7 bt768.1 bt768.2.1 bt768.2.2.1 bt775.1 bt775.2.1 bt775.2.2 bt789.1 bt789.2.1 bt789.2.2.1) else (laws_FnExactRecDo.j0 k a2 bt768.2.2.2 bt789.2.2.2 true a0_0 a0_1 l0_2 a1_0 a1_1 a1_2 a1_3 a1_4 a1_5 a1_6 a1_7 bt768.1 bt768.2.1 bt768.2.2.1 bt775.1 bt775.2.1 bt775.2.2 bt789.1 bt789.2.1 bt789.2.2.1))))))))))) = some r := h
 clear h
 replace H := Option.bind_eq_some_iff.mp H
 obtain ⟨t754, A40, H⟩ := H
 replace H : (if t754 < 0 then (some true) else ((laws_toPage.f k a0_0 a0_1 l0_2).bind fun bt755 => ((laws_toRec.f a1_0 a1_1 a1_2 a1_3 a1_4 a1_5 a1_6 a1_7).bind fun bt760 => ((spec_RecDo.f k bt755.1 bt755.2.1 bt755.2.2 bt760.1 bt760.2.1 bt760.2.2.1 bt760.2.2.2.1 bt760.2.2.2.2.1 bt760.2.2.2.2.2.1 bt760.2.2.2.2.2.2.1 bt760.2.2.2.2.2.2.2 a2).bind fun bt768 => ((laws_toPage.f k a0_0 a0_1 l0_2).bind fun bt775 => ((laws_toRec.f a1_0 a1_1 a1_2 a1_3 a1_4 a1_5 a1_6 a1_7).bind fun bt781 => ((impl_RecDo.f k bt775.1 bt775.2.1 bt775.2.2 bt781.1 bt781.2.1 bt781.2.2.1 bt781.2.2.2.1 bt781.2.2.2.2.1 bt781.2.2.2.2.2.1 bt781.2.2.2.2.2.2.1 bt781.2.2.2.2.2.2.2 a2).bind fun bt789 => ((laws_eqPage.f k bt789.1 bt789.2.1 bt789.2.2.1 bt768.1 bt768.2.1 bt768.2.2.1).bind fun t796 => (if t796 = true then (laws_FnExactRecDo.j0 k a2 bt768.2.2.2 bt789.2.2.2 (bt789.2.2.2 != bt768.2.2.2) a0_0 a0_1 l0_2 a1_0 a1_1 a1_2 a1_3 a1_4 a1_5 a1_6 a1_7 bt768.1 bt768.2.1 bt768.2.2.1 bt775.1 bt775.2.1 bt775.2.2 bt789.1 bt789.2.1 bt789.2.2.1) else (laws_FnExactRecDo.j0 k a2 bt768.2.2.2 bt789.2.2.2 true a0_0 a0_1 l0_2 a1_0 a1_1 a1_2 a1_3 a1_4 a1_5 a1_6 a1_7 bt768.1 bt768.2.1 bt768.2.2.1 bt775.1 bt775.2.1 bt775.2.2 bt789.1 bt789.2.1 bt789.2.2.1)))))))))) = some r := H
 have A4 := az A40
 clear A40
 by_cases c5 : t754 < 0
 ·rw [if_pos c5] at H
  have c5b0 : decide (t754 < 0) = true := decide_eq_true c5
  clear c5
  obtain rfl := Option.some.inj H
  go_enter Try.func9, Try.ntmps9
  go_wp2_with (first | ((with_reducible refine gate_dst (N := 3) rfl ?_); refine box_event ?hg (N := 3) ?hd (cs := #[.int .i64 a0_0, .int .i64 a0_1, .slice A0_2 l0_2.length c0_2]) (t := 57) ?hr ?_; (case hd => rfl); (case hg => rfl); (case hr => first | (go_simp; done) | (go_simp; rfl)); intro gb752 hg w6 hbox hb; have BK752 := az (hbox); have GW752 := az ((by rw [hg]; exact (below_size (by repeat (first | (with_reducible first | exact HB.out | apply wa | apply wn | apply wd) | exact HB.out))) : w.heap.size ≤ gb752)); have GE752 := GW752; replace HB := az (below_step (by repeat (first | (with_reducible first | exact HB.out | apply wa | apply wn | apply wd) | exact HB.out)) hb); clear hb hbox hg) | ((with_reducible refine gate_dst (N := 4) rfl ?_); refine box_event ?hg (N := 4) ?hd (cs := #[.int .i64 a1_0, .int .i64 a1_1, .int .i64 a1_2, .int .i64 a1_3, .int .i64 a1_4, .int .i64 a1_5, .int .i64 a1_6, .int .i64 a1_7]) (t := 58) ?hr ?_; (case hd => rfl); (case hg => rfl); (case hr => first | (go_simp; done) | (go_simp; rfl)); intro gb753 hg w7 hbox hb; have BK753 := az (hbox); have GW753 := az ((by rw [hg]; exact (below_size (by repeat (first | (with_reducible first | exact HB.out | apply wa | apply wn | apply wd | refine ws ‹_› ?_) | exact HB.out))) : w.heap.size ≤ gb753)); have GE753 := GW753; replace HB := az (below_step (by repeat (first | (with_reducible first | exact HB.out | apply wa | apply wn | apply wd | refine ws ‹_› ?_) | exact HB.out)) hb); obtain ⟨NB752_753, NB753_752⟩ := nb BK752 hg (fun h => by (with_reducible repeat (first | apply bn | apply bd | apply ba)); exact h); replace BK752 := bb BK752 (fun h => by (with_reducible repeat (first | apply bn | apply bd | apply ba)); exact h) hb; clear hb hbox hg; have hnb8 := NB752_753.out; have hnc8 := NB753_752.out; obtain ⟨hcz9_0, hcz9_1, hcz9_2⟩ := cz3 BK752; have hfz9_0 := blk_frozen BK752.out 0; have hfz9_1 := blk_frozen BK752.out 1; have hfz9_2 := blk_frozen BK752.out 2) | ((with_reducible refine gate_callee (f := 49) rfl ?_); refine goesL_ (some 20) rfl rfl Try.func49 (by kernel_rfl) rfl #[.agg #[.int .i64 a0_0, .int .i64 a0_1, .slice A0_2 l0_2.length c0_2], .int .i64 1048576] rfl (by (try simp only [List.map_toArray, List.map_cons, List.map_nil]); first | done | rfl | (simp only [List.length_drop, List.length_take]; rfl)) ?_; (with_reducible refine (laws_szPage.calls a0_0 a0_1 _ _ l0_2 1048576 t754 _ ?side1 ?side2 A4.out).mono ?_); (case side1 => repeat (first | exact (Kd.C_below HR0_2.out HB.out) | (with_reducible refine Kd.C_alloc ?_ _) | (with_reducible refine Kd.C_drewN ?_ _) | (with_reducible refine Kd.C_drew ?_))); (case side2 => exact HC0_2.out); rintro e w10 ⟨rfl, hb⟩; refine ⟨_, rfl, ?_⟩; replace BK752 := bb BK752 (fun h => by (with_reducible repeat (first | apply bn | apply bd | apply ba)); exact h) hb; replace BK753 := bb BK753 (fun h => by (with_reducible repeat (first | apply bn | apply bd | apply ba)); exact h) hb; replace HB := az (below_step (by repeat (first | (with_reducible first | exact HB.out | apply wa | apply wn | apply wd | refine ws ‹_› ?_) | exact HB.out)) hb); (try clear hb); (try clear hb2); (try clear hk); (try clear hi)))
  go_ret
  exact ⟨by first | rfl | (simp [errW_none, errW_some] <;> rfl) | (simp [*, errW_none, errW_some] <;> rfl), by repeat (first | (with_reducible first | exact HB.out | apply wa | apply wn | apply wd | refine ws ‹_› ?_) | exact HB.out)⟩
 ·rw [if_neg c5] at H
  have c5b0 : decide (t754 < 0) = false := decide_eq_false c5
  clear c5
  replace H := Option.bind_eq_some_iff.mp H
  obtain ⟨⟨t755, t756, t757⟩, A110, H⟩ := H
  replace H : ((laws_toRec.f a1_0 a1_1 a1_2 a1_3 a1_4 a1_5 a1_6 a1_7).bind fun bt760 => ((spec_RecDo.f k t755 t756 t757 bt760.1 bt760.2.1 bt760.2.2.1 bt760.2.2.2.1 bt760.2.2.2.2.1 bt760.2.2.2.2.2.1 bt760.2.2.2.2.2.2.1 bt760.2.2.2.2.2.2.2 a2).bind fun bt768 => ((laws_toPage.f k a0_0 a0_1 l0_2).bind fun bt775 => ((laws_toRec.f a1_0 a1_1 a1_2 a1_3 a1_4 a1_5 a1_6 a1_7).bind fun bt781 => ((impl_RecDo.f k bt775.1 bt775.2.1 bt775.2.2 bt781.1 bt781.2.1 bt781.2.2.1 bt781.2.2.2.1 bt781.2.2.2.2.1 bt781.2.2.2.2.2.1 bt781.2.2.2.2.2.2.1 bt781.2.2.2.2.2.2.2 a2).bind fun bt789 => ((laws_eqPage.f k bt789.1 bt789.2.1 bt789.2.2.1 bt768.1 bt768.2.1 bt768.2.2.1).bind fun t796 => (if t796 = true then (laws_FnExactRecDo.j0 k a2 bt768.2.2.2 bt789.2.2.2 (bt789.2.2.2 != bt768.2.2.2) a0_0 a0_1 l0_2 a1_0 a1_1 a1_2 a1_3 a1_4 a1_5 a1_6 a1_7 bt768.1 bt768.2.1 bt768.2.2.1 bt775.1 bt775.2.1 bt775.2.2 bt789.1 bt789.2.1 bt789.2.2.1) else (laws_FnExactRecDo.j0 k a2 bt768.2.2.2 bt789.2.2.2 true a0_0 a0_1 l0_2 a1_0 a1_1 a1_2 a1_3 a1_4 a1_5 a1_6 a1_7 bt768.1 bt768.2.1 bt768.2.2.1 bt775.1 bt775.2.1 bt775.2.2 bt789.1 bt789.2.1 bt789.2.2.1)))))))) = some r := H
  have A11 := az A110
  clear A110
  replace H := Option.bind_eq_some_iff.mp H
  obtain ⟨⟨t760, t761, t762, t763, t764, t765, t766, t767⟩, A120, H⟩ := H
  replace H : ((spec_RecDo.f k t755 t756 t757 t760 t761 t762 t763 t764 t765 t766 t767 a2).bind fun bt768 => ((laws_toPage.f k a0_0 a0_1 l0_2).bind fun bt775 => ((laws_toRec.f a1_0 a1_1 a1_2 a1_3 a1_4 a1_5 a1_6 a1_7).bind fun bt781 => ((impl_RecDo.f k bt775.1 bt775.2.1 bt775.2.2 bt781.1 bt781.2.1 bt781.2.2.1 bt781.2.2.2.1 bt781.2.2.2.2.1 bt781.2.2.2.2.2.1 bt781.2.2.2.2.2.2.1 bt781.2.2.2.2.2.2.2 a2).bind fun bt789 => ((laws_eqPage.f k bt789.1 bt789.2.1 bt789.2.2.1 bt768.1 bt768.2.1 bt768.2.2.1).bind fun t796 => (if t796 = true then (laws_FnExactRecDo.j0 k a2 bt768.2.2.2 bt789.2.2.2 (bt789.2.2.2 != bt768.2.2.2) a0_0 a0_1 l0_2 a1_0 a1_1 a1_2 a1_3 a1_4 a1_5 a1_6 a1_7 bt768.1 bt768.2.1 bt768.2.2.1 bt775.1 bt775.2.1 bt775.2.2 bt789.1 bt789.2.1 bt789.2.2.1) else (laws_FnExactRecDo.j0 k a2 bt768.2.2.2 bt789.2.2.2 true a0_0 a0_1 l0_2 a1_0 a1_1 a1_2 a1_3 a1_4 a1_5 a1_6 a1_7 bt768.1 bt768.2.1 bt768.2.2.1 bt775.1 bt775.2.1 bt775.2.2 bt789.1 bt789.2.1 bt789.2.2.1))))))) = some r := H
  have A12 := az A120
  clear A120
  replace H := Option.bind_eq_some_iff.mp H
  obtain ⟨⟨t768, t769, t770, t773⟩, A130, H⟩ := H
  replace H : ((laws_toPage.f k a0_0 a0_1 l0_2).bind fun bt775 => ((laws_toRec.f a1_0 a1_1 a1_2 a1_3 a1_4 a1_5 a1_6 a1_7).bind fun bt781 => ((impl_RecDo.f k bt775.1 bt775.2.1 bt775.2.2 bt781.1 bt781.2.1 bt781.2.2.1 bt781.2.2.2.1 bt781.2.2.2.2.1 bt781.2.2.2.2.2.1 bt781.2.2.2.2.2.2.1 bt781.2.2.2.2.2.2.2 a2).bind fun bt789 => ((laws_eqPage.f k bt789.1 bt789.2.1 bt789.2.2.1 t768 t769 t770).bind fun t796 => (if t796 = true then (laws_FnExactRecDo.j0 k a2 t773 bt789.2.2.2 (bt789.2.2.2 != t773) a0_0 a0_1 l0_2 a1_0 a1_1 a1_2 a1_3 a1_4 a1_5 a1_6 a1_7 t768 t769 t770 bt775.1 bt775.2.1 bt775.2.2 bt789.1 bt789.2.1 bt789.2.2.1) else (laws_FnExactRecDo.j0 k a2 t773 bt789.2.2.2 true a0_0 a0_1 l0_2 a1_0 a1_1 a1_2 a1_3 a1_4 a1_5 a1_6 a1_7 t768 t769 t770 bt775.1 bt775.2.1 bt775.2.2 bt789.1 bt789.2.1 bt789.2.2.1)))))) = some r := H
  have A13 := az A130
  clear A130
  replace H := Option.bind_eq_some_iff.mp H
  obtain ⟨⟨t775, t776, t777⟩, A140, H⟩ := H
  replace H : ((laws_toRec.f a1_0 a1_1 a1_2 a1_3 a1_4 a1_5 a1_6 a1_7).bind fun bt781 => ((impl_RecDo.f k t775 t776 t777 bt781.1 bt781.2.1 bt781.2.2.1 bt781.2.2.2.1 bt781.2.2.2.2.1 bt781.2.2.2.2.2.1 bt781.2.2.2.2.2.2.1 bt781.2.2.2.2.2.2.2 a2).bind fun bt789 => ((laws_eqPage.f k bt789.1 bt789.2.1 bt789.2.2.1 t768 t769 t770).bind fun t796 => (if t796 = true then (laws_FnExactRecDo.j0 k a2 t773 bt789.2.2.2 (bt789.2.2.2 != t773) a0_0 a0_1 l0_2 a1_0 a1_1 a1_2 a1_3 a1_4 a1_5 a1_6 a1_7 t768 t769 t770 t775 t776 t777 bt789.1 bt789.2.1 bt789.2.2.1) else (laws_FnExactRecDo.j0 k a2 t773 bt789.2.2.2 true a0_0 a0_1 l0_2 a1_0 a1_1 a1_2 a1_3 a1_4 a1_5 a1_6 a1_7 t768 t769 t770 t775 t776 t777 bt789.1 bt789.2.1 bt789.2.2.1))))) = some r := H
  have A14 := az A140
  clear A140
  replace H := Option.bind_eq_some_iff.mp H
  obtain ⟨⟨t781, t782, t783, t784, t785, t786, t787, t788⟩, A150, H⟩ := H
  replace H : ((impl_RecDo.f k t775 t776 t777 t781 t782 t783 t784 t785 t786 t787 t788 a2).bind fun bt789 => ((laws_eqPage.f k bt789.1 bt789.2.1 bt789.2.2.1 t768 t769 t770).bind fun t796 => (if t796 = true then (laws_FnExactRecDo.j0 k a2 t773 bt789.2.2.2 (bt789.2.2.2 != t773) a0_0 a0_1 l0_2 a1_0 a1_1 a1_2 a1_3 a1_4 a1_5 a1_6 a1_7 t768 t769 t770 t775 t776 t777 bt789.1 bt789.2.1 bt789.2.2.1) else (laws_FnExactRecDo.j0 k a2 t773 bt789.2.2.2 true a0_0 a0_1 l0_2 a1_0 a1_1 a1_2 a1_3 a1_4 a1_5 a1_6 a1_7 t768 t769 t770 t775 t776 t777 bt789.1 bt789.2.1 bt789.2.2.1)))) = some r := H
  have A15 := az A150
  clear A150
  replace H := Option.bind_eq_some_iff.mp H
  obtain ⟨⟨t789, t790, t791, t794⟩, A160, H⟩ := H
  replace H : ((laws_eqPage.f k t789 t790 t791 t768 t769 t770).bind fun t796 => (if t796 = true then (laws_FnExactRecDo.j0 k a2 t773 t794 (t794 != t773) a0_0 a0_1 l0_2 a1_0 a1_1 a1_2 a1_3 a1_4 a1_5 a1_6 a1_7 t768 t769 t770 t775 t776 t777 t789 t790 t791) else (laws_FnExactRecDo.j0 k a2 t773 t794 true a0_0 a0_1 l0_2 a1_0 a1_1 a1_2 a1_3 a1_4 a1_5 a1_6 a1_7 t768 t769 t770 t775 t776 t777 t789 t790 t791))) = some r := H
  have A16 := az A160
  clear A160
  have HC17 := az H
  clear H
  go_enter Try.func9, Try.ntmps9
  try go_wp2_with (first | ((with_reducible refine gate_dst (N := 3) rfl ?_); refine box_event ?hg (N := 3) ?hd (cs := #[.int .i64 a0_0, .int .i64 a0_1, .slice A0_2 l0_2.length c0_2]) (t := 57) ?hr ?_; (case hd => rfl); (case hg => rfl); (case hr => first | (go_simp; done) | (go_simp; rfl)); intro gb752 hg w18 hbox hb; have BK752 := az (hbox); have GW752 := az ((by rw [hg]; exact (below_size (by repeat (first | (with_reducible first | exact HB.out | apply wa | apply wn | apply wd) | exact HB.out))) : w.heap.size ≤ gb752)); have GE752 := GW752; replace HB := az (below_step (by repeat (first | (with_reducible first | exact HB.out | apply wa | apply wn | apply wd) | exact HB.out)) hb); clear hb hbox hg) | ((with_reducible refine gate_dst (N := 4) rfl ?_); refine box_event ?hg (N := 4) ?hd (cs := #[.int .i64 a1_0, .int .i64 a1_1, .int .i64 a1_2, .int .i64 a1_3, .int .i64 a1_4, .int .i64 a1_5, .int .i64 a1_6, .int .i64 a1_7]) (t := 58) ?hr ?_; (case hd => rfl); (case hg => rfl); (case hr => first | (go_simp; done) | (go_simp; rfl)); intro gb753 hg w19 hbox hb; have BK753 := az (hbox); have GW753 := az ((by rw [hg]; exact (below_size (by repeat (first | (with_reducible first | exact HB.out | apply wa | apply wn | apply wd | refine ws ‹_› ?_) | exact HB.out))) : w.heap.size ≤ gb753)); have GE753 := GW753; replace HB := az (below_step (by repeat (first | (with_reducible first | exact HB.out | apply wa | apply wn | apply wd | refine ws ‹_› ?_) | exact HB.out)) hb); obtain ⟨NB752_753, NB753_752⟩ := nb BK752 hg (fun h => by (with_reducible repeat (first | apply bn | apply bd | apply ba)); exact h); replace BK752 := bb BK752 (fun h => by (with_reducible repeat (first | apply bn | apply bd | apply ba)); exact h) hb; clear hb hbox hg; have hnb20 := NB752_753.out; have hnc20 := NB753_752.out; obtain ⟨hcz21_0, hcz21_1, hcz21_2⟩ := cz3 BK752; have hfz21_0 := blk_frozen BK752.out 0; have hfz21_1 := blk_frozen BK752.out 1; have hfz21_2 := blk_frozen BK752.out 2) | ((with_reducible refine gate_callee (f := 49) rfl ?_); refine goesL_ (some 20) rfl rfl Try.func49 (by kernel_rfl) rfl #[.agg #[.int .i64 a0_0, .int .i64 a0_1, .slice A0_2 l0_2.length c0_2], .int .i64 1048576] rfl (by (try simp only [List.map_toArray, List.map_cons, List.map_nil]); first | done | rfl | (simp only [List.length_drop, List.length_take]; rfl)) ?_; (with_reducible refine (laws_szPage.calls a0_0 a0_1 _ _ l0_2 1048576 t754 _ ?side1 ?side2 A4.out).mono ?_); (case side1 => repeat (first | exact (Kd.C_below HR0_2.out HB.out) | (with_reducible refine Kd.C_alloc ?_ _) | (with_reducible refine Kd.C_drewN ?_ _) | (with_reducible refine Kd.C_drew ?_))); (case side2 => exact HC0_2.out); rintro e w22 ⟨rfl, hb⟩; refine ⟨_, rfl, ?_⟩; replace BK752 := bb BK752 (fun h => by (with_reducible repeat (first | apply bn | apply bd | apply ba)); exact h) hb; replace BK753 := bb BK753 (fun h => by (with_reducible repeat (first | apply bn | apply bd | apply ba)); exact h) hb; replace HB := az (below_step (by repeat (first | (with_reducible first | exact HB.out | apply wa | apply wn | apply wd | refine ws ‹_› ?_) | exact HB.out)) hb); (try clear hb); (try clear hb2); (try clear hk); (try clear hi)))
  replace BK752 := az (blk_drew BK752.out)
  replace BK753 := az (blk_drew BK753.out)
  replace HB := az (wd HB.out)
  refine start_ (n := 12) (S := fun w' => w'.cell? ⟨gb752, 0, none⟩ = some (.int .i64 a0_0) ∧ w'.cell? ⟨gb752, 1, none⟩ = some (.int .i64 a0_1) ∧ w'.cell? ⟨gb752, 2, none⟩ = some (.slice A0_2 l0_2.length c0_2) ∧ w'.cell? ⟨gb753, 0, none⟩ = some (.int .i64 a1_0) ∧ w'.cell? ⟨gb753, 1, none⟩ = some (.int .i64 a1_1) ∧ w'.cell? ⟨gb753, 2, none⟩ = some (.int .i64 a1_2) ∧ w'.cell? ⟨gb753, 3, none⟩ = some (.int .i64 a1_3) ∧ w'.cell? ⟨gb753, 4, none⟩ = some (.int .i64 a1_4) ∧ w'.cell? ⟨gb753, 5, none⟩ = some (.int .i64 a1_5) ∧ w'.cell? ⟨gb753, 6, none⟩ = some (.int .i64 a1_6) ∧ w'.cell? ⟨gb753, 7, none⟩ = some (.int .i64 a1_7)) (ds := []) #[false, false, false, false, false, false, false, false, false, false, false, false] (by kernel_rfl) rfl rfl ⟨bt BK752 rfl, bt BK752 rfl, bt BK752 rfl, bt BK753 rfl, bt BK753 rfl, bt BK753 rfl, bt BK753 rfl, bt BK753 rfl, bt BK753 rfl, bt BK753 rfl, bt BK753 rfl⟩ (fun hHeld => ?_); refine with_tabW laws_FnExactRecDo.tab5 laws_FnExactRecDo.bits5 (fun HT_ HW_ => ?_)
  generalize w22.drew = w23 at BK752 BK753 HB hHeld ⊢
  refine pure_ (i := 4) (N := some 28) (v := ?_) (a' := ?_) #[false, false, false, false, true, false, false, false, false, false, false, false] rfl rfl (any_of HT_.out (by kernel_rfl)) (fun _ _ _ h => h) (Or.inl ⟨by rfl, ?_⟩) ?_ ?_
  rotate_left
  ·intro w'
   go_simp
   with_reducible rfl
  rotate_left
  ·simp only [Act.put, List.setIfInBounds_toArray, List.set_cons_zero, List.set_cons_succ, i64_w, i32_w]
   rfl
  refine take_ (i := 0) (N := some 24) (v := ?_) (a' := ?_) #[true, false, false, false, true, false, false, false, false, false, false, false] rfl rfl (take_ofW HT_.out HW_.out (by kernel_rfl)) (fun _ _ _ h => h) (Or.inl ⟨by rfl, ?_⟩) hHeld ?_ ?_
  rotate_left
  ·rintro w' ⟨s0, s1, s2, s3, s4, s5, s6, s7, s8, s9, s10⟩
   go_simp
   with_reducible rfl
  rotate_left
  ·simp only [Act.put, List.setIfInBounds_toArray, List.set_cons_zero, List.set_cons_succ, i64_w, i32_w]
   rfl
  refine take_ (i := 2) (N := some 26) (v := ?_) (a' := ?_) #[true, false, true, false, true, false, false, false, false, false, false, false] rfl rfl (take_ofW HT_.out HW_.out (by kernel_rfl)) (fun _ _ _ h => h) (Or.inl ⟨by rfl, ?_⟩) hHeld ?_ ?_
  rotate_left
  ·rintro w' ⟨s0, s1, s2, s3, s4, s5, s6, s7, s8, s9, s10⟩
   go_simp
   with_reducible rfl
  rotate_left
  ·simp only [Act.put, List.setIfInBounds_toArray, List.set_cons_zero, List.set_cons_succ, i64_w, i32_w]
   rfl
  refine join_ (σ := Value × Value × Nat) 2 #[true, true, true, true, true, true, true, true, true, true, false, false] (fun s_ => [(25, .agg #[.int .i64 t755, .int .i64 t756, s_.1]), (27, .agg #[.int .i64 t760, .int .i64 t761, .int .i64 t762, .int .i64 t763, .int .i64 t764, .int .i64 t765, .int .i64 t766, .int .i64 t767]), (29, .tuple #[.agg #[.int .i64 t768, .int .i64 t769, s_.2.1], .bool t773]), (8, .pointer (some ⟨s_.2.2, 0, none⟩)), (23, .tuple #[.agg #[.int .i64 t768, .int .i64 t769, s_.2.1], .bool t773]), (30, .agg #[.int .i64 t768, .int .i64 t769, s_.2.1]), (31, .bool t773)]) (fun s_ w' => (w'.cell? ⟨gb752, 0, none⟩ = some (.int .i64 a0_0) ∧ w'.cell? ⟨gb752, 1, none⟩ = some (.int .i64 a0_1) ∧ w'.cell? ⟨gb752, 2, none⟩ = some (.slice A0_2 l0_2.length c0_2) ∧ w'.cell? ⟨gb753, 0, none⟩ = some (.int .i64 a1_0) ∧ w'.cell? ⟨gb753, 1, none⟩ = some (.int .i64 a1_1) ∧ w'.cell? ⟨gb753, 2, none⟩ = some (.int .i64 a1_2) ∧ w'.cell? ⟨gb753, 3, none⟩ = some (.int .i64 a1_3) ∧ w'.cell? ⟨gb753, 4, none⟩ = some (.int .i64 a1_4) ∧ w'.cell? ⟨gb753, 5, none⟩ = some (.int .i64 a1_5) ∧ w'.cell? ⟨gb753, 6, none⟩ = some (.int .i64 a1_6) ∧ w'.cell? ⟨gb753, 7, none⟩ = some (.int .i64 a1_7)) ∧ (Kd.R (Kd.int .i64) 3 w' w.heap.size (fun k_ => some k_ ≠ (s_.2.1 : Value).ownBlock) s_.1 t757) ∧ (Kd.R (Kd.int .i64) 3 w' w.heap.size (fun k_ => some k_ ≠ (s_.1 : Value).ownBlock) s_.2.1 t770) ∧ (w'.heap[gb752]? = some (.cells #[.int .i64 a0_0, .int .i64 a0_1, .slice A0_2 l0_2.length c0_2] 57 (0, 0))) ∧ (w'.heap[gb753]? = some (.cells #[.int .i64 a1_0, .int .i64 a1_1, .int .i64 a1_2, .int .i64 a1_3, .int .i64 a1_4, .int .i64 a1_5, .int .i64 a1_6, .int .i64 a1_7] 58 (0, 0))) ∧ (w'.heap[s_.2.2]? = some (.cells #[.int .i64 0, .int .i64 0, .slice none 0 0] 25 (0, 0))) ∧ (w.heap.size ≤ s_.2.2) ∧ (w.heap.size ≤ s_.2.2) ∧ (gb752 ≠ s_.2.2) ∧ (s_.2.2 ≠ gb752) ∧ (gb753 ≠ s_.2.2) ∧ (s_.2.2 ≠ gb753) ∧ (Below w.heap.size w w')) ?_ ?_
  rotate_left
  ·intro hCont
   refine two_ (i := 1) (j := 9) (Ni := some 25) (Nj := some 8) #[true, true, true, false, true, false, false, false, false, false, false, false] #[true, false, true, false, true, false, false, false, false, true, false, false] rfl rfl rfl rfl (two_of HT_.out (by kernel_rfl)) (by decide) (by decide) (fun K hK => ?_) (fun K hK => ?_)
   ·skip
    refine goes_ Try.func51 (by kernel_rfl) rfl #[.agg #[.int .i64 a0_0, .int .i64 a0_1, .slice A0_2 l0_2.length c0_2]] (by rfl) rfl rfl (by (try simp only [List.map_toArray, List.map_cons, List.map_nil]); first | done | rfl | (simp only [List.length_drop, List.length_take]; rfl)) ?_
    with_reducible refine (laws_toPage.calls k a0_0 a0_1 _ _ l0_2 t755 t756 t757 _ ?side1 ?side2 A11.out).mono ?_
    (case side1 => repeat (first | exact (Kd.C_below HR0_2.out HB.out) | (with_reducible refine Kd.C_alloc ?_ _) | (with_reducible refine Kd.C_drewN ?_ _) | (with_reducible refine Kd.C_drew ?_)))
    (case side2 => exact HC0_2.out)
    rintro e w24 ⟨v758, rfl, ho0, hb⟩
    refine ⟨_, rfl, ?_⟩
    have HO759 := az (Kd.R_lower ho0 (below_size (by repeat (first | (with_reducible first | exact HB.out | apply wa | apply wn | apply wd | refine ws ‹_› ?_) | exact HB.out))))
    replace BK752 := bb BK752 (fun h => by (with_reducible repeat (first | apply bn | apply bd | apply ba)); exact h) hb
    replace BK753 := bb BK753 (fun h => by (with_reducible repeat (first | apply bn | apply bd | apply ba)); exact h) hb
    replace HB := az (below_step (by repeat (first | (with_reducible first | exact HB.out | apply wa | apply wn | apply wd | refine ws ‹_› ?_) | exact HB.out)) hb)
    (try clear hb);(try clear hb2);(try clear hk);(try clear hi);(try clear ho0)
    refine hK.out _ _ ⟨bt BK752 rfl, bt BK752 rfl, bt BK752 rfl, bt BK753 rfl, bt BK753 rfl, bt BK753 rfl, bt BK753 rfl, bt BK753 rfl, bt BK753 rfl, bt BK753 rfl, bt BK753 rfl⟩ (fun hHeld => ?_)
    clear hK K
    refine norm_ (a' := ?_) ?_ ?_
    rotate_left
    ·show Act.put _ (some 25) _ = _
     simp only [Act.put, List.setIfInBounds_toArray, List.set_cons_zero, List.set_cons_succ, i64_w, i32_w]
     rfl
    refine two_ (i := 3) (j := 9) (Ni := some 27) (Nj := some 8) #[true, true, true, true, true, false, false, false, false, false, false, false] #[true, true, true, false, true, false, false, false, false, true, false, false] rfl rfl rfl rfl (two_of HT_.out (by kernel_rfl)) (by decide) (by decide) (fun K hK => ?_) (fun K hK => ?_)
    ·skip
     refine goes_ Try.func52 (by kernel_rfl) rfl #[.agg #[.int .i64 a1_0, .int .i64 a1_1, .int .i64 a1_2, .int .i64 a1_3, .int .i64 a1_4, .int .i64 a1_5, .int .i64 a1_6, .int .i64 a1_7]] (by rfl) rfl rfl (by (try simp only [List.map_toArray, List.map_cons, List.map_nil]); first | done | rfl | (simp only [List.length_drop, List.length_take]; rfl)) ?_
     with_reducible refine (laws_toRec.calls a1_0 a1_1 a1_2 a1_3 a1_4 a1_5 a1_6 a1_7 t760 t761 t762 t763 t764 t765 t766 t767 _ A12.out).mono ?_
     rintro e w25 ⟨rfl, hb⟩
     refine ⟨_, rfl, ?_⟩
     replace HO759 := az (Kd.R_below (by (with_reducible repeat (first | apply Kd.R_alloc | apply Kd.R_drewN | apply Kd.R_drew)); exact HO759.out) hb)
     replace BK752 := bb BK752 (fun h => by (with_reducible repeat (first | apply bn | apply bd | apply ba)); exact h) hb
     replace BK753 := bb BK753 (fun h => by (with_reducible repeat (first | apply bn | apply bd | apply ba)); exact h) hb
     replace HB := az (below_step (by repeat (first | (with_reducible first | exact HB.out | apply wa | apply wn | apply wd | refine ws ‹_› ?_) | exact HB.out)) hb)
     (try clear hb);(try clear hb2);(try clear hk);(try clear hi)
     obtain ⟨Ao26, co26, eo26⟩ := Kd.R_slice HO759.out
     (first | subst eo26 | (injection eo26 with f1_ f2_ f3_; have f4_ := f1_.symm; have f5_ := f3_.symm; clear f1_ f2_ f3_; subst f4_; subst f5_))
     refine hK.out _ _ ⟨bt BK752 rfl, bt BK752 rfl, bt BK752 rfl, bt BK753 rfl, bt BK753 rfl, bt BK753 rfl, bt BK753 rfl, bt BK753 rfl, bt BK753 rfl, bt BK753 rfl, bt BK753 rfl⟩ (fun hHeld => ?_)
     clear hK K
     refine norm_ (a' := ?_) ?_ ?_
     rotate_left
     ·show Act.put _ (some 27) _ = _
      simp only [Act.put, List.setIfInBounds_toArray, List.set_cons_zero, List.set_cons_succ, i64_w, i32_w]
      rfl
     refine two_ (i := 5) (j := 9) (Ni := some 29) (Nj := some 8) #[true, true, true, true, true, true, false, false, false, false, false, false] #[true, true, true, true, true, false, false, false, false, true, false, false] rfl rfl rfl rfl (two_of HT_.out (by kernel_rfl)) (by decide) (by decide) (fun K hK => ?_) (fun K hK => ?_)
     ·skip
      refine goes_ Try.func50 (by kernel_rfl) rfl #[.agg #[.int .i64 t755, .int .i64 t756, .slice Ao26 t757.length co26], .agg #[.int .i64 t760, .int .i64 t761, .int .i64 t762, .int .i64 t763, .int .i64 t764, .int .i64 t765, .int .i64 t766, .int .i64 t767], .int .i64 a2] (by rfl) rfl rfl (by (try simp only [List.map_toArray, List.map_cons, List.map_nil]); first | done | rfl | (simp only [List.length_drop, List.length_take]; rfl)) ?_
      with_reducible refine (spec_RecDo.calls k t755 t756 _ _ t757 t760 t761 t762 t763 t764 t765 t766 t767 a2 t768 t769 t770 t773 _ ?side1 ?side2 A13.out).mono ?_
      (case side1 => repeat (first | exact (Kd.R_reads' HO759.out).2.2 | (with_reducible refine Kd.C_alloc ?_ _) | (with_reducible refine Kd.C_drewN ?_ _) | (with_reducible refine Kd.C_drew ?_)))
      (case side2 => exact (Kd.R_reads' HO759.out).2.1)
      rintro e w27 ⟨v771, rfl, ho0, hb⟩
      refine ⟨_, rfl, ?_⟩
      have HO772 := az (Kd.R_lower (Kd.R_new' ho0 (Kd.R_lt (by (with_reducible repeat (first | apply Kd.R_alloc | apply Kd.R_drewN | apply Kd.R_drew)); exact HO759.out))) (below_size (by repeat (first | (with_reducible first | exact HB.out | apply wa | apply wn | apply wd | refine ws ‹_› ?_) | exact HB.out))))
      replace HO759 := az (Kd.R_elder' (by (with_reducible repeat (first | apply Kd.R_alloc | apply Kd.R_drewN | apply Kd.R_drew)); exact HO759.out) (Kd.R_base ho0) hb)
      replace BK752 := bb BK752 (fun h => by (with_reducible repeat (first | apply bn | apply bd | apply ba)); exact h) hb
      replace BK753 := bb BK753 (fun h => by (with_reducible repeat (first | apply bn | apply bd | apply ba)); exact h) hb
      replace HB := az (below_step (by repeat (first | (with_reducible first | exact HB.out | apply wa | apply wn | apply wd | refine ws ‹_› ?_) | exact HB.out)) hb)
      (try clear hb);(try clear hb2);(try clear hk);(try clear hi);(try clear ho0)
      refine hK.out _ _ ⟨bt BK752 rfl, bt BK752 rfl, bt BK752 rfl, bt BK753 rfl, bt BK753 rfl, bt BK753 rfl, bt BK753 rfl, bt BK753 rfl, bt BK753 rfl, bt BK753 rfl, bt BK753 rfl⟩ (fun hHeld => ?_)
      clear hK K
      refine norm_ (a' := ?_) ?_ ?_
      rotate_left
      ·show Act.put _ (some 29) _ = _
       simp only [Act.put, List.setIfInBounds_toArray, List.set_cons_zero, List.set_cons_succ, i64_w, i32_w]
       rfl
      refine pure_ (i := 6) (N := some 23) (v := ?_) (a' := ?_) #[true, true, true, true, true, true, true, false, false, false, false, false] rfl rfl (any_of HT_.out (by kernel_rfl)) (fun _ _ _ h => h) (Or.inl ⟨by rfl, ?_⟩) ?_ ?_
      rotate_left
      ·intro w'
       go_simp
       with_reducible rfl
      rotate_left
      ·simp only [Act.put, List.setIfInBounds_toArray, List.set_cons_zero, List.set_cons_succ, i64_w, i32_w]
       rfl
      refine pure_ (i := 7) (N := some 30) (v := ?_) (a' := ?_) #[true, true, true, true, true, true, true, true, false, false, false, false] rfl rfl (any_of HT_.out (by kernel_rfl)) (fun _ _ _ h => h) (Or.inl ⟨by rfl, ?_⟩) ?_ ?_
      rotate_left
      ·intro w'
       go_simp
       with_reducible rfl
      rotate_left
      ·simp only [Act.put, List.setIfInBounds_toArray, List.set_cons_zero, List.set_cons_succ, i64_w, i32_w]
       rfl
      refine pure_ (i := 8) (N := some 31) (v := ?_) (a' := ?_) #[true, true, true, true, true, true, true, true, true, false, false, false] rfl rfl (any_of HT_.out (by kernel_rfl)) (fun _ _ _ h => h) (Or.inl ⟨by rfl, ?_⟩) ?_ ?_
      rotate_left
      ·intro w'
       go_simp
       with_reducible rfl
      rotate_left
      ·simp only [Act.put, List.setIfInBounds_toArray, List.set_cons_zero, List.set_cons_succ, i64_w, i32_w]
       rfl
      refine one_ (i := 9) (N := some 8) #[true, true, true, true, true, true, true, true, true, true, false, false] rfl rfl (one_of HT_.out (by kernel_rfl)) (by decide) (fun K hK => ?_)
      refine box_step ?hg (N := 8) ?hd (cs := #[.int .i64 0, .int .i64 0, .slice none 0 0]) (t := 25) ?hr ?_; (case hd => rfl); (case hg => rfl); (case hr => first | (go_simp; done) | (go_simp; rfl))
      intro gb774 hg w28 hbox hb
      replace HO759 := az (Kd.R_below (by (with_reducible repeat (first | apply Kd.R_alloc | apply Kd.R_drewN | apply Kd.R_drew)); exact HO759.out) hb)
      replace HO772 := az (Kd.R_below (by (with_reducible repeat (first | apply Kd.R_alloc | apply Kd.R_drewN | apply Kd.R_drew)); exact HO772.out) hb)
      have BK774 := az (hbox)
      have GW774 := az ((by rw [hg]; exact (below_size (by repeat (first | (with_reducible first | exact HB.out | apply wa | apply wn | apply wd | refine ws ‹_› ?_) | exact HB.out))) : w.heap.size ≤ gb774))
      have GE774 := GW774
      replace HB := az (below_step (by repeat (first | (with_reducible first | exact HB.out | apply wa | apply wn | apply wd | refine ws ‹_› ?_) | exact HB.out)) hb)
      obtain ⟨NB752_774, NB774_752⟩ := nb BK752 hg (fun h => by (with_reducible repeat (first | apply bn | apply bd | apply ba)); exact h)
      replace BK752 := bb BK752 (fun h => by (with_reducible repeat (first | apply bn | apply bd | apply ba)); exact h) hb
      obtain ⟨NB753_774, NB774_753⟩ := nb BK753 hg (fun h => by (with_reducible repeat (first | apply bn | apply bd | apply ba)); exact h)
      replace BK753 := bb BK753 (fun h => by (with_reducible repeat (first | apply bn | apply bd | apply ba)); exact h) hb
      clear hb hbox hg
      refine hK.out _ _ ⟨bt BK752 rfl, bt BK752 rfl, bt BK752 rfl, bt BK753 rfl, bt BK753 rfl, bt BK753 rfl, bt BK753 rfl, bt BK753 rfl, bt BK753 rfl, bt BK753 rfl, bt BK753 rfl⟩ (fun hHeld => ?_)
      clear hK K
      refine norm_ (a' := ?_) ?_ ?_
      rotate_left
      ·show Act.put _ (some 8) _ = _
       simp only [Act.put, List.setIfInBounds_toArray, List.set_cons_zero, List.set_cons_succ, i64_w, i32_w]
       rfl
      exact norm_ (by simp only [putAll, Act.put, List.setIfInBounds_toArray, List.set_cons_zero, List.set_cons_succ]) (hCont (.slice Ao26 t757.length co26, v771, gb774) _ ⟨hHeld, (by (with_reducible repeat (first | apply Kd.R_alloc | apply Kd.R_drewN | apply Kd.R_drew)); exact Kd.R_mono HO759.out (fun _ hk => hk.2)), (by (with_reducible repeat (first | apply Kd.R_alloc | apply Kd.R_drewN | apply Kd.R_drew)); exact Kd.R_mono HO772.out (fun _ hk => hk.2)), (by (with_reducible repeat (first | apply bn | apply bd | apply ba)); exact BK752.out), (by (with_reducible repeat (first | apply bn | apply bd | apply ba)); exact BK753.out), (by (with_reducible repeat (first | apply bn | apply bd | apply ba)); exact BK774.out), GW774.out, GE774.out, NB752_774.out, NB774_752.out, NB753_774.out, NB774_753.out, (by repeat (first | (with_reducible first | exact HB.out | apply wa | apply wn | apply wd | refine ws ‹_› ?_) | exact HB.out))⟩)
     ·skip
      refine box_step ?hg (N := 8) ?hd (cs := #[.int .i64 0, .int .i64 0, .slice none 0 0]) (t := 25) ?hr ?_; (case hd => rfl); (case hg => rfl); (case hr => first | (go_simp; done) | (go_simp; rfl))
      intro gb774 hg w26 hbox hb
      replace HO759 := az (Kd.R_below (by (with_reducible repeat (first | apply Kd.R_alloc | apply Kd.R_drewN | apply Kd.R_drew)); exact HO759.out) hb)
      have BK774 := az (hbox)
      have GW774 := az ((by rw [hg]; exact (below_size (by repeat (first | (with_reducible first | exact HB.out | apply wa | apply wn | apply wd | refine ws ‹_› ?_) | exact HB.out))) : w.heap.size ≤ gb774))
      have GE774 := GW774
      replace HB := az (below_step (by repeat (first | (with_reducible first | exact HB.out | apply wa | apply wn | apply wd | refine ws ‹_› ?_) | exact HB.out)) hb)
      obtain ⟨NB752_774, NB774_752⟩ := nb BK752 hg (fun h => by (with_reducible repeat (first | apply bn | apply bd | apply ba)); exact h)
      replace BK752 := bb BK752 (fun h => by (with_reducible repeat (first | apply bn | apply bd | apply ba)); exact h) hb
      obtain ⟨NB753_774, NB774_753⟩ := nb BK753 hg (fun h => by (with_reducible repeat (first | apply bn | apply bd | apply ba)); exact h)
      replace BK753 := bb BK753 (fun h => by (with_reducible repeat (first | apply bn | apply bd | apply ba)); exact h) hb
      clear hb hbox hg
      obtain ⟨Ao27, co27, eo27⟩ := Kd.R_slice HO759.out
      (first | subst eo27 | (injection eo27 with f1_ f2_ f3_; have f4_ := f1_.symm; have f5_ := f3_.symm; clear f1_ f2_ f3_; subst f4_; subst f5_))
      refine hK.out _ _ ⟨bt BK752 rfl, bt BK752 rfl, bt BK752 rfl, bt BK753 rfl, bt BK753 rfl, bt BK753 rfl, bt BK753 rfl, bt BK753 rfl, bt BK753 rfl, bt BK753 rfl, bt BK753 rfl⟩ (fun hHeld => ?_)
      clear hK K
      refine norm_ (a' := ?_) ?_ ?_
      rotate_left
      ·show Act.put _ (some 8) _ = _
       simp only [Act.put, List.setIfInBounds_toArray, List.set_cons_zero, List.set_cons_succ, i64_w, i32_w]
       rfl
      refine one_ (i := 5) (N := some 29) #[true, true, true, true, true, true, false, false, false, true, false, false] rfl rfl (one_of HT_.out (by kernel_rfl)) (by decide) (fun K hK => ?_)
      refine goes_ Try.func50 (by kernel_rfl) rfl #[.agg #[.int .i64 t755, .int .i64 t756, .slice Ao27 t757.length co27], .agg #[.int .i64 t760, .int .i64 t761, .int .i64 t762, .int .i64 t763, .int .i64 t764, .int .i64 t765, .int .i64 t766, .int .i64 t767], .int .i64 a2] (by rfl) rfl rfl (by (try simp only [List.map_toArray, List.map_cons, List.map_nil]); first | done | rfl | (simp only [List.length_drop, List.length_take]; rfl)) ?_
      with_reducible refine (spec_RecDo.calls k t755 t756 _ _ t757 t760 t761 t762 t763 t764 t765 t766 t767 a2 t768 t769 t770 t773 _ ?side1 ?side2 A13.out).mono ?_
      (case side1 => repeat (first | exact (Kd.R_reads' HO759.out).2.2 | (with_reducible refine Kd.C_alloc ?_ _) | (with_reducible refine Kd.C_drewN ?_ _) | (with_reducible refine Kd.C_drew ?_)))
      (case side2 => exact (Kd.R_reads' HO759.out).2.1)
      rintro e w28 ⟨v771, rfl, ho0, hb⟩
      refine ⟨_, rfl, ?_⟩
      have HO772 := az (Kd.R_lower (Kd.R_new' ho0 (Kd.R_lt (by (with_reducible repeat (first | apply Kd.R_alloc | apply Kd.R_drewN | apply Kd.R_drew)); exact HO759.out))) (below_size (by repeat (first | (with_reducible first | exact HB.out | apply wa | apply wn | apply wd | refine ws ‹_› ?_) | exact HB.out))))
      replace HO759 := az (Kd.R_elder' (by (with_reducible repeat (first | apply Kd.R_alloc | apply Kd.R_drewN | apply Kd.R_drew)); exact HO759.out) (Kd.R_base ho0) hb)
      replace BK752 := bb BK752 (fun h => by (with_reducible repeat (first | apply bn | apply bd | apply ba)); exact h) hb
      replace BK753 := bb BK753 (fun h => by (with_reducible repeat (first | apply bn | apply bd | apply ba)); exact h) hb
      replace BK774 := bb BK774 (fun h => by (with_reducible repeat (first | apply bn | apply bd | apply ba)); exact h) hb
      replace HB := az (below_step (by repeat (first | (with_reducible first | exact HB.out | apply wa | apply wn | apply wd | refine ws ‹_› ?_) | exact HB.out)) hb)
      (try clear hb);(try clear hb2);(try clear hk);(try clear hi);(try clear ho0)
      refine hK.out _ _ ⟨bt BK752 rfl, bt BK752 rfl, bt BK752 rfl, bt BK753 rfl, bt BK753 rfl, bt BK753 rfl, bt BK753 rfl, bt BK753 rfl, bt BK753 rfl, bt BK753 rfl, bt BK753 rfl⟩ (fun hHeld => ?_)
      clear hK K
      refine norm_ (a' := ?_) ?_ ?_
      rotate_left
      ·show Act.put _ (some 29) _ = _
       simp only [Act.put, List.setIfInBounds_toArray, List.set_cons_zero, List.set_cons_succ, i64_w, i32_w]
       rfl
      refine pure_ (i := 6) (N := some 23) (v := ?_) (a' := ?_) #[true, true, true, true, true, true, true, false, false, true, false, false] rfl rfl (any_of HT_.out (by kernel_rfl)) (fun _ _ _ h => h) (Or.inl ⟨by rfl, ?_⟩) ?_ ?_
      rotate_left
      ·intro w'
       go_simp
       with_reducible rfl
      rotate_left
      ·simp only [Act.put, List.setIfInBounds_toArray, List.set_cons_zero, List.set_cons_succ, i64_w, i32_w]
       rfl
      refine pure_ (i := 7) (N := some 30) (v := ?_) (a' := ?_) #[true, true, true, true, true, true, true, true, false, true, false, false] rfl rfl (any_of HT_.out (by kernel_rfl)) (fun _ _ _ h => h) (Or.inl ⟨by rfl, ?_⟩) ?_ ?_
      rotate_left
      ·intro w'
       go_simp
       with_reducible rfl
      rotate_left
      ·simp only [Act.put, List.setIfInBounds_toArray, List.set_cons_zero, List.set_cons_succ, i64_w, i32_w]
       rfl
      refine pure_ (i := 8) (N := some 31) (v := ?_) (a' := ?_) #[true, true, true, true, true, true, true, true, true, true, false, false] rfl rfl (any_of HT_.out (by kernel_rfl)) (fun _ _ _ h => h) (Or.inl ⟨by rfl, ?_⟩) ?_ ?_
      rotate_left
      ·intro w'
       go_simp
       with_reducible rfl
      rotate_left
      ·simp only [Act.put, List.setIfInBounds_toArray, List.set_cons_zero, List.set_cons_succ, i64_w, i32_w]
       rfl
      exact norm_ (by simp only [putAll, Act.put, List.setIfInBounds_toArray, List.set_cons_zero, List.set_cons_succ]) (hCont (.slice Ao27 t757.length co27, v771, gb774) _ ⟨hHeld, (by (with_reducible repeat (first | apply Kd.R_alloc | apply Kd.R_drewN | apply Kd.R_drew)); exact Kd.R_mono HO759.out (fun _ hk => hk.2)), (by (with_reducible repeat (first | apply Kd.R_alloc | apply Kd.R_drewN | apply Kd.R_drew)); exact Kd.R_mono HO772.out (fun _ hk => hk.2)), (by (with_reducible repeat (first | apply bn | apply bd | apply ba)); exact BK752.out), (by (with_reducible repeat (first | apply bn | apply bd | apply ba)); exact BK753.out), (by (with_reducible repeat (first | apply bn | apply bd | apply ba)); exact BK774.out), GW774.out, GE774.out, NB752_774.out, NB774_752.out, NB753_774.out, NB774_753.out, (by repeat (first | (with_reducible first | exact HB.out | apply wa | apply wn | apply wd | refine ws ‹_› ?_) | exact HB.out))⟩)
    ·skip
     refine box_step ?hg (N := 8) ?hd (cs := #[.int .i64 0, .int .i64 0, .slice none 0 0]) (t := 25) ?hr ?_; (case hd => rfl); (case hg => rfl); (case hr => first | (go_simp; done) | (go_simp; rfl))
     intro gb774 hg w25 hbox hb
     replace HO759 := az (Kd.R_below (by (with_reducible repeat (first | apply Kd.R_alloc | apply Kd.R_drewN | apply Kd.R_drew)); exact HO759.out) hb)
     have BK774 := az (hbox)
     have GW774 := az ((by rw [hg]; exact (below_size (by repeat (first | (with_reducible first | exact HB.out | apply wa | apply wn | apply wd | refine ws ‹_› ?_) | exact HB.out))) : w.heap.size ≤ gb774))
     have GE774 := GW774
     replace HB := az (below_step (by repeat (first | (with_reducible first | exact HB.out | apply wa | apply wn | apply wd | refine ws ‹_› ?_) | exact HB.out)) hb)
     obtain ⟨NB752_774, NB774_752⟩ := nb BK752 hg (fun h => by (with_reducible repeat (first | apply bn | apply bd | apply ba)); exact h)
     replace BK752 := bb BK752 (fun h => by (with_reducible repeat (first | apply bn | apply bd | apply ba)); exact h) hb
     obtain ⟨NB753_774, NB774_753⟩ := nb BK753 hg (fun h => by (with_reducible repeat (first | apply bn | apply bd | apply ba)); exact h)
     replace BK753 := bb BK753 (fun h => by (with_reducible repeat (first | apply bn | apply bd | apply ba)); exact h) hb
     clear hb hbox hg
     refine hK.out _ _ ⟨bt BK752 rfl, bt BK752 rfl, bt BK752 rfl, bt BK753 rfl, bt BK753 rfl, bt BK753 rfl, bt BK753 rfl, bt BK753 rfl, bt BK753 rfl, bt BK753 rfl, bt BK753 rfl⟩ (fun hHeld => ?_)
     clear hK K
     refine norm_ (a' := ?_) ?_ ?_
     rotate_left
     ·show Act.put _ (some 8) _ = _
      simp only [Act.put, List.setIfInBounds_toArray, List.set_cons_zero, List.set_cons_succ, i64_w, i32_w]
      rfl
     refine one_ (i := 3) (N := some 27) #[true, true, true, true, true, false, false, false, false, true, false, false] rfl rfl (one_of HT_.out (by kernel_rfl)) (by decide) (fun K hK => ?_)
     refine goes_ Try.func52 (by kernel_rfl) rfl #[.agg #[.int .i64 a1_0, .int .i64 a1_1, .int .i64 a1_2, .int .i64 a1_3, .int .i64 a1_4, .int .i64 a1_5, .int .i64 a1_6, .int .i64 a1_7]] (by rfl) rfl rfl (by (try simp only [List.map_toArray, List.map_cons, List.map_nil]); first | done | rfl | (simp only [List.length_drop, List.length_take]; rfl)) ?_
     with_reducible refine (laws_toRec.calls a1_0 a1_1 a1_2 a1_3 a1_4 a1_5 a1_6 a1_7 t760 t761 t762 t763 t764 t765 t766 t767 _ A12.out).mono ?_
     rintro e w26 ⟨rfl, hb⟩
     refine ⟨_, rfl, ?_⟩
     replace HO759 := az (Kd.R_below (by (with_reducible repeat (first | apply Kd.R_alloc | apply Kd.R_drewN | apply Kd.R_drew)); exact HO759.out) hb)
     replace BK752 := bb BK752 (fun h => by (with_reducible repeat (first | apply bn | apply bd | apply ba)); exact h) hb
     replace BK753 := bb BK753 (fun h => by (with_reducible repeat (first | apply bn | apply bd | apply ba)); exact h) hb
     replace BK774 := bb BK774 (fun h => by (with_reducible repeat (first | apply bn | apply bd | apply ba)); exact h) hb
     replace HB := az (below_step (by repeat (first | (with_reducible first | exact HB.out | apply wa | apply wn | apply wd | refine ws ‹_› ?_) | exact HB.out)) hb)
     (try clear hb);(try clear hb2);(try clear hk);(try clear hi)
     obtain ⟨Ao27, co27, eo27⟩ := Kd.R_slice HO759.out
     (first | subst eo27 | (injection eo27 with f1_ f2_ f3_; have f4_ := f1_.symm; have f5_ := f3_.symm; clear f1_ f2_ f3_; subst f4_; subst f5_))
     refine hK.out _ _ ⟨bt BK752 rfl, bt BK752 rfl, bt BK752 rfl, bt BK753 rfl, bt BK753 rfl, bt BK753 rfl, bt BK753 rfl, bt BK753 rfl, bt BK753 rfl, bt BK753 rfl, bt BK753 rfl⟩ (fun hHeld => ?_)
     clear hK K
     refine norm_ (a' := ?_) ?_ ?_
     rotate_left
     ·show Act.put _ (some 27) _ = _
      simp only [Act.put, List.setIfInBounds_toArray, List.set_cons_zero, List.set_cons_succ, i64_w, i32_w]
      rfl
     refine one_ (i := 5) (N := some 29) #[true, true, true, true, true, true, false, false, false, true, false, false] rfl rfl (one_of HT_.out (by kernel_rfl)) (by decide) (fun K hK => ?_)
     refine goes_ Try.func50 (by kernel_rfl) rfl #[.agg #[.int .i64 t755, .int .i64 t756, .slice Ao27 t757.length co27], .agg #[.int .i64 t760, .int .i64 t761, .int .i64 t762, .int .i64 t763, .int .i64 t764, .int .i64 t765, .int .i64 t766, .int .i64 t767], .int .i64 a2] (by rfl) rfl rfl (by (try simp only [List.map_toArray, List.map_cons, List.map_nil]); first | done | rfl | (simp only [List.length_drop, List.length_take]; rfl)) ?_
     with_reducible refine (spec_RecDo.calls k t755 t756 _ _ t757 t760 t761 t762 t763 t764 t765 t766 t767 a2 t768 t769 t770 t773 _ ?side1 ?side2 A13.out).mono ?_
     (case side1 => repeat (first | exact (Kd.R_reads' HO759.out).2.2 | (with_reducible refine Kd.C_alloc ?_ _) | (with_reducible refine Kd.C_drewN ?_ _) | (with_reducible refine Kd.C_drew ?_)))
     (case side2 => exact (Kd.R_reads' HO759.out).2.1)
     rintro e w28 ⟨v771, rfl, ho0, hb⟩
     refine ⟨_, rfl, ?_⟩
     have HO772 := az (Kd.R_lower (Kd.R_new' ho0 (Kd.R_lt (by (with_reducible repeat (first | apply Kd.R_alloc | apply Kd.R_drewN | apply Kd.R_drew)); exact HO759.out))) (below_size (by repeat (first | (with_reducible first | exact HB.out | apply wa | apply wn | apply wd | refine ws ‹_› ?_) | exact HB.out))))
     replace HO759 := az (Kd.R_elder' (by (with_reducible repeat (first | apply Kd.R_alloc | apply Kd.R_drewN | apply Kd.R_drew)); exact HO759.out) (Kd.R_base ho0) hb)
     replace BK752 := bb BK752 (fun h => by (with_reducible repeat (first | apply bn | apply bd | apply ba)); exact h) hb
     replace BK753 := bb BK753 (fun h => by (with_reducible repeat (first | apply bn | apply bd | apply ba)); exact h) hb
     replace BK774 := bb BK774 (fun h => by (with_reducible repeat (first | apply bn | apply bd | apply ba)); exact h) hb
     replace HB := az (below_step (by repeat (first | (with_reducible first | exact HB.out | apply wa | apply wn | apply wd | refine ws ‹_› ?_) | exact HB.out)) hb)
     (try clear hb);(try clear hb2);(try clear hk);(try clear hi);(try clear ho0)
     refine hK.out _ _ ⟨bt BK752 rfl, bt BK752 rfl, bt BK752 rfl, bt BK753 rfl, bt BK753 rfl, bt BK753 rfl, bt BK753 rfl, bt BK753 rfl, bt BK753 rfl, bt BK753 rfl, bt BK753 rfl⟩ (fun hHeld => ?_)
     clear hK K
     refine norm_ (a' := ?_) ?_ ?_
     rotate_left
     ·show Act.put _ (some 29) _ = _
      simp only [Act.put, List.setIfInBounds_toArray, List.set_cons_zero, List.set_cons_succ, i64_w, i32_w]
      rfl
     refine pure_ (i := 6) (N := some 23) (v := ?_) (a' := ?_) #[true, true, true, true, true, true, true, false, false, true, false, false] rfl rfl (any_of HT_.out (by kernel_rfl)) (fun _ _ _ h => h) (Or.inl ⟨by rfl, ?_⟩) ?_ ?_
     rotate_left
     ·intro w'
      go_simp
      with_reducible rfl
     rotate_left
     ·simp only [Act.put, List.setIfInBounds_toArray, List.set_cons_zero, List.set_cons_succ, i64_w, i32_w]
      rfl
     refine pure_ (i := 7) (N := some 30) (v := ?_) (a' := ?_) #[true, true, true, true, true, true, true, true, false, true, false, false] rfl rfl (any_of HT_.out (by kernel_rfl)) (fun _ _ _ h => h) (Or.inl ⟨by rfl, ?_⟩) ?_ ?_
     rotate_left
     ·intro w'
      go_simp
      with_reducible rfl
     rotate_left
     ·simp only [Act.put, List.setIfInBounds_toArray, List.set_cons_zero, List.set_cons_succ, i64_w, i32_w]
      rfl
     refine pure_ (i := 8) (N := some 31) (v := ?_) (a' := ?_) #[true, true, true, true, true, true, true, true, true, true, false, false] rfl rfl (any_of HT_.out (by kernel_rfl)) (fun _ _ _ h => h) (Or.inl ⟨by rfl, ?_⟩) ?_ ?_
     rotate_left
     ·intro w'
      go_simp
      with_reducible rfl
     rotate_left
     ·simp only [Act.put, List.setIfInBounds_toArray, List.set_cons_zero, List.set_cons_succ, i64_w, i32_w]
      rfl
     exact norm_ (by simp only [putAll, Act.put, List.setIfInBounds_toArray, List.set_cons_zero, List.set_cons_succ]) (hCont (.slice Ao27 t757.length co27, v771, gb774) _ ⟨hHeld, (by (with_reducible repeat (first | apply Kd.R_alloc | apply Kd.R_drewN | apply Kd.R_drew)); exact Kd.R_mono HO759.out (fun _ hk => hk.2)), (by (with_reducible repeat (first | apply Kd.R_alloc | apply Kd.R_drewN | apply Kd.R_drew)); exact Kd.R_mono HO772.out (fun _ hk => hk.2)), (by (with_reducible repeat (first | apply bn | apply bd | apply ba)); exact BK752.out), (by (with_reducible repeat (first | apply bn | apply bd | apply ba)); exact BK753.out), (by (with_reducible repeat (first | apply bn | apply bd | apply ba)); exact BK774.out), GW774.out, GE774.out, NB752_774.out, NB774_752.out, NB753_774.out, NB774_753.out, (by repeat (first | (with_reducible first | exact HB.out | apply wa | apply wn | apply wd | refine ws ‹_› ?_) | exact HB.out))⟩)
   ·skip
    refine box_step ?hg (N := 8) ?hd (cs := #[.int .i64 0, .int .i64 0, .slice none 0 0]) (t := 25) ?hr ?_; (case hd => rfl); (case hg => rfl); (case hr => first | (go_simp; done) | (go_simp; rfl))
    intro gb774 hg w24 hbox hb
    have BK774 := az (hbox)
    have GW774 := az ((by rw [hg]; exact (below_size (by repeat (first | (with_reducible first | exact HB.out | apply wa | apply wn | apply wd | refine ws ‹_› ?_) | exact HB.out))) : w.heap.size ≤ gb774))
    have GE774 := GW774
    replace HB := az (below_step (by repeat (first | (with_reducible first | exact HB.out | apply wa | apply wn | apply wd | refine ws ‹_› ?_) | exact HB.out)) hb)
    obtain ⟨NB752_774, NB774_752⟩ := nb BK752 hg (fun h => by (with_reducible repeat (first | apply bn | apply bd | apply ba)); exact h)
    replace BK752 := bb BK752 (fun h => by (with_reducible repeat (first | apply bn | apply bd | apply ba)); exact h) hb
    obtain ⟨NB753_774, NB774_753⟩ := nb BK753 hg (fun h => by (with_reducible repeat (first | apply bn | apply bd | apply ba)); exact h)
    replace BK753 := bb BK753 (fun h => by (with_reducible repeat (first | apply bn | apply bd | apply ba)); exact h) hb
    clear hb hbox hg
    refine hK.out _ _ ⟨bt BK752 rfl, bt BK752 rfl, bt BK752 rfl, bt BK753 rfl, bt BK753 rfl, bt BK753 rfl, bt BK753 rfl, bt BK753 rfl, bt BK753 rfl, bt BK753 rfl, bt BK753 rfl⟩ (fun hHeld => ?_)
    clear hK K
    refine norm_ (a' := ?_) ?_ ?_
    rotate_left
    ·show Act.put _ (some 8) _ = _
     simp only [Act.put, List.setIfInBounds_toArray, List.set_cons_zero, List.set_cons_succ, i64_w, i32_w]
     rfl
    refine one_ (i := 1) (N := some 25) #[true, true, true, false, true, false, false, false, false, true, false, false] rfl rfl (one_of HT_.out (by kernel_rfl)) (by decide) (fun K hK => ?_)
    refine goes_ Try.func51 (by kernel_rfl) rfl #[.agg #[.int .i64 a0_0, .int .i64 a0_1, .slice A0_2 l0_2.length c0_2]] (by rfl) rfl rfl (by (try simp only [List.map_toArray, List.map_cons, List.map_nil]); first | done | rfl | (simp only [List.length_drop, List.length_take]; rfl)) ?_
    with_reducible refine (laws_toPage.calls k a0_0 a0_1 _ _ l0_2 t755 t756 t757 _ ?side1 ?side2 A11.out).mono ?_
    (case side1 => repeat (first | exact (Kd.C_below HR0_2.out HB.out) | (with_reducible refine Kd.C_alloc ?_ _) | (with_reducible refine Kd.C_drewN ?_ _) | (with_reducible refine Kd.C_drew ?_)))
    (case side2 => exact HC0_2.out)
    rintro e w25 ⟨v758, rfl, ho0, hb⟩
    refine ⟨_, rfl, ?_⟩
    have HO759 := az (Kd.R_lower ho0 (below_size (by repeat (first | (with_reducible first | exact HB.out | apply wa | apply wn | apply wd | refine ws ‹_› ?_) | exact HB.out))))
    replace BK752 := bb BK752 (fun h => by (with_reducible repeat (first | apply bn | apply bd | apply ba)); exact h) hb
    replace BK753 := bb BK753 (fun h => by (with_reducible repeat (first | apply bn | apply bd | apply ba)); exact h) hb
    replace BK774 := bb BK774 (fun h => by (with_reducible repeat (first | apply bn | apply bd | apply ba)); exact h) hb
    replace HB := az (below_step (by repeat (first | (with_reducible first | exact HB.out | apply wa | apply wn | apply wd | refine ws ‹_› ?_) | exact HB.out)) hb)
    (try clear hb);(try clear hb2);(try clear hk);(try clear hi);(try clear ho0)
    refine hK.out _ _ ⟨bt BK752 rfl, bt BK752 rfl, bt BK752 rfl, bt BK753 rfl, bt BK753 rfl, bt BK753 rfl, bt BK753 rfl, bt BK753 rfl, bt BK753 rfl, bt BK753 rfl, bt BK753 rfl⟩ (fun hHeld => ?_)
    clear hK K
    refine norm_ (a' := ?_) ?_ ?_
    rotate_left
    ·show Act.put _ (some 25) _ = _
     simp only [Act.put, List.setIfInBounds_toArray, List.set_cons_zero, List.set_cons_succ, i64_w, i32_w]
     rfl
    refine one_ (i := 3) (N := some 27) #[true, true, true, true, true, false, false, false, false, true, false, false] rfl rfl (one_of HT_.out (by kernel_rfl)) (by decide) (fun K hK => ?_)
    refine goes_ Try.func52 (by kernel_rfl) rfl #[.agg #[.int .i64 a1_0, .int .i64 a1_1, .int .i64 a1_2, .int .i64 a1_3, .int .i64 a1_4, .int .i64 a1_5, .int .i64 a1_6, .int .i64 a1_7]] (by rfl) rfl rfl (by (try simp only [List.map_toArray, List.map_cons, List.map_nil]); first | done | rfl | (simp only [List.length_drop, List.length_take]; rfl)) ?_
    with_reducible refine (laws_toRec.calls a1_0 a1_1 a1_2 a1_3 a1_4 a1_5 a1_6 a1_7 t760 t761 t762 t763 t764 t765 t766 t767 _ A12.out).mono ?_
    rintro e w26 ⟨rfl, hb⟩
    refine ⟨_, rfl, ?_⟩
    replace HO759 := az (Kd.R_below (by (with_reducible repeat (first | apply Kd.R_alloc | apply Kd.R_drewN | apply Kd.R_drew)); exact HO759.out) hb)
    replace BK752 := bb BK752 (fun h => by (with_reducible repeat (first | apply bn | apply bd | apply ba)); exact h) hb
    replace BK753 := bb BK753 (fun h => by (with_reducible repeat (first | apply bn | apply bd | apply ba)); exact h) hb
    replace BK774 := bb BK774 (fun h => by (with_reducible repeat (first | apply bn | apply bd | apply ba)); exact h) hb
    replace HB := az (below_step (by repeat (first | (with_reducible first | exact HB.out | apply wa | apply wn | apply wd | refine ws ‹_› ?_) | exact HB.out)) hb)
    (try clear hb);(try clear hb2);(try clear hk);(try clear hi)
    obtain ⟨Ao27, co27, eo27⟩ := Kd.R_slice HO759.out
    (first | subst eo27 | (injection eo27 with f1_ f2_ f3_; have f4_ := f1_.symm; have f5_ := f3_.symm; clear f1_ f2_ f3_; subst f4_; subst f5_))
    refine hK.out _ _ ⟨bt BK752 rfl, bt BK752 rfl, bt BK752 rfl, bt BK753 rfl, bt BK753 rfl, bt BK753 rfl, bt BK753 rfl, bt BK753 rfl, bt BK753 rfl, bt BK753 rfl, bt BK753 rfl⟩ (fun hHeld => ?_)
    clear hK K
    refine norm_ (a' := ?_) ?_ ?_
    rotate_left
    ·show Act.put _ (some 27) _ = _
     simp only [Act.put, List.setIfInBounds_toArray, List.set_cons_zero, List.set_cons_succ, i64_w, i32_w]
     rfl
    refine one_ (i := 5) (N := some 29) #[true, true, true, true, true, true, false, false, false, true, false, false] rfl rfl (one_of HT_.out (by kernel_rfl)) (by decide) (fun K hK => ?_)
    refine goes_ Try.func50 (by kernel_rfl) rfl #[.agg #[.int .i64 t755, .int .i64 t756, .slice Ao27 t757.length co27], .agg #[.int .i64 t760, .int .i64 t761, .int .i64 t762, .int .i64 t763, .int .i64 t764, .int .i64 t765, .int .i64 t766, .int .i64 t767], .int .i64 a2] (by rfl) rfl rfl (by (try simp only [List.map_toArray, List.map_cons, List.map_nil]); first | done | rfl | (simp only [List.length_drop, List.length_take]; rfl)) ?_
    with_reducible refine (spec_RecDo.calls k t755 t756 _ _ t757 t760 t761 t762 t763 t764 t765 t766 t767 a2 t768 t769 t770 t773 _ ?side1 ?side2 A13.out).mono ?_
    (case side1 => repeat (first | exact (Kd.R_reads' HO759.out).2.2 | (with_reducible refine Kd.C_alloc ?_ _) | (with_reducible refine Kd.C_drewN ?_ _) | (with_reducible refine Kd.C_drew ?_)))
    (case side2 => exact (Kd.R_reads' HO759.out).2.1)
    rintro e w28 ⟨v771, rfl, ho0, hb⟩
    refine ⟨_, rfl, ?_⟩
    have HO772 := az (Kd.R_lower (Kd.R_new' ho0 (Kd.R_lt (by (with_reducible repeat (first | apply Kd.R_alloc | apply Kd.R_drewN | apply Kd.R_drew)); exact HO759.out))) (below_size (by repeat (first | (with_reducible first | exact HB.out | apply wa | apply wn | apply wd | refine ws ‹_› ?_) | exact HB.out))))
    replace HO759 := az (Kd.R_elder' (by (with_reducible repeat (first | apply Kd.R_alloc | apply Kd.R_drewN | apply Kd.R_drew)); exact HO759.out) (Kd.R_base ho0) hb)
    replace BK752 := bb BK752 (fun h => by (with_reducible repeat (first | apply bn | apply bd | apply ba)); exact h) hb
    replace BK753 := bb BK753 (fun h => by (with_reducible repeat (first | apply bn | apply bd | apply ba)); exact h) hb
    replace BK774 := bb BK774 (fun h => by (with_reducible repeat (first | apply bn | apply bd | apply ba)); exact h) hb
    replace HB := az (below_step (by repeat (first | (with_reducible first | exact HB.out | apply wa | apply wn | apply wd | refine ws ‹_› ?_) | exact HB.out)) hb)
    (try clear hb);(try clear hb2);(try clear hk);(try clear hi);(try clear ho0)
    refine hK.out _ _ ⟨bt BK752 rfl, bt BK752 rfl, bt BK752 rfl, bt BK753 rfl, bt BK753 rfl, bt BK753 rfl, bt BK753 rfl, bt BK753 rfl, bt BK753 rfl, bt BK753 rfl, bt BK753 rfl⟩ (fun hHeld => ?_)
    clear hK K
    refine norm_ (a' := ?_) ?_ ?_
    rotate_left
    ·show Act.put _ (some 29) _ = _
     simp only [Act.put, List.setIfInBounds_toArray, List.set_cons_zero, List.set_cons_succ, i64_w, i32_w]
     rfl
    refine pure_ (i := 6) (N := some 23) (v := ?_) (a' := ?_) #[true, true, true, true, true, true, true, false, false, true, false, false] rfl rfl (any_of HT_.out (by kernel_rfl)) (fun _ _ _ h => h) (Or.inl ⟨by rfl, ?_⟩) ?_ ?_
    rotate_left
    ·intro w'
     go_simp
     with_reducible rfl
    rotate_left
    ·simp only [Act.put, List.setIfInBounds_toArray, List.set_cons_zero, List.set_cons_succ, i64_w, i32_w]
     rfl
    refine pure_ (i := 7) (N := some 30) (v := ?_) (a' := ?_) #[true, true, true, true, true, true, true, true, false, true, false, false] rfl rfl (any_of HT_.out (by kernel_rfl)) (fun _ _ _ h => h) (Or.inl ⟨by rfl, ?_⟩) ?_ ?_
    rotate_left
    ·intro w'
     go_simp
     with_reducible rfl
    rotate_left
    ·simp only [Act.put, List.setIfInBounds_toArray, List.set_cons_zero, List.set_cons_succ, i64_w, i32_w]
     rfl
    refine pure_ (i := 8) (N := some 31) (v := ?_) (a' := ?_) #[true, true, true, true, true, true, true, true, true, true, false, false] rfl rfl (any_of HT_.out (by kernel_rfl)) (fun _ _ _ h => h) (Or.inl ⟨by rfl, ?_⟩) ?_ ?_
    rotate_left
    ·intro w'
     go_simp
     with_reducible rfl
    rotate_left
    ·simp only [Act.put, List.setIfInBounds_toArray, List.set_cons_zero, List.set_cons_succ, i64_w, i32_w]
     rfl
    exact norm_ (by simp only [putAll, Act.put, List.setIfInBounds_toArray, List.set_cons_zero, List.set_cons_succ]) (hCont (.slice Ao27 t757.length co27, v771, gb774) _ ⟨hHeld, (by (with_reducible repeat (first | apply Kd.R_alloc | apply Kd.R_drewN | apply Kd.R_drew)); exact Kd.R_mono HO759.out (fun _ hk => hk.2)), (by (with_reducible repeat (first | apply Kd.R_alloc | apply Kd.R_drewN | apply Kd.R_drew)); exact Kd.R_mono HO772.out (fun _ hk => hk.2)), (by (with_reducible repeat (first | apply bn | apply bd | apply ba)); exact BK752.out), (by (with_reducible repeat (first | apply bn | apply bd | apply ba)); exact BK753.out), (by (with_reducible repeat (first | apply bn | apply bd | apply ba)); exact BK774.out), GW774.out, GE774.out, NB752_774.out, NB774_752.out, NB753_774.out, NB774_753.out, (by repeat (first | (with_reducible first | exact HB.out | apply wa | apply wn | apply wd | refine ws ‹_› ?_) | exact HB.out))⟩)
  rintro ⟨v758, v771, gb774⟩ w29 ⟨hS_, h0_, h1_, h2_, h3_, h4_, h5_, h6_, h7_, h8_, h9_, h10_, h11_⟩
  have HO759 : Aside0 (Kd.R (Kd.int .i64) 3 w29 w.heap.size (fun k_ => some k_ ≠ (v771 : Value).ownBlock) v758 t757) := ⟨h0_⟩
  have HO772 : Aside0 (Kd.R (Kd.int .i64) 3 w29 w.heap.size (fun k_ => some k_ ≠ (v758 : Value).ownBlock) v771 t770) := ⟨h1_⟩
  replace BK752 : Aside0 (w29.heap[gb752]? = some (.cells #[.int .i64 a0_0, .int .i64 a0_1, .slice A0_2 l0_2.length c0_2] 57 (0, 0))) := ⟨h2_⟩
  replace BK753 : Aside0 (w29.heap[gb753]? = some (.cells #[.int .i64 a1_0, .int .i64 a1_1, .int .i64 a1_2, .int .i64 a1_3, .int .i64 a1_4, .int .i64 a1_5, .int .i64 a1_6, .int .i64 a1_7] 58 (0, 0))) := ⟨h3_⟩
  have BK774 : Aside0 (w29.heap[gb774]? = some (.cells #[.int .i64 0, .int .i64 0, .slice none 0 0] 25 (0, 0))) := ⟨h4_⟩
  have GW774 : Aside0 (w.heap.size ≤ gb774) := ⟨h5_⟩
  have GE774 : Aside0 (w.heap.size ≤ gb774) := ⟨h6_⟩
  have NB752_774 : Aside0 (gb752 ≠ gb774) := ⟨h7_⟩
  have NB774_752 : Aside0 (gb774 ≠ gb752) := ⟨h8_⟩
  have NB753_774 : Aside0 (gb753 ≠ gb774) := ⟨h9_⟩
  have NB774_753 : Aside0 (gb774 ≠ gb753) := ⟨h10_⟩
  replace HB : Aside0 (Below w.heap.size w w29) := ⟨h11_⟩
  clear h0_ h1_ h2_ h3_ h4_ h5_ h6_ h7_ h8_ h9_ h10_ h11_
  have hHeld : w29.cell? ⟨gb752, 0, none⟩ = some (.int .i64 a0_0) ∧ w29.cell? ⟨gb752, 1, none⟩ = some (.int .i64 a0_1) ∧ w29.cell? ⟨gb752, 2, none⟩ = some (.slice A0_2 l0_2.length c0_2) ∧ w29.cell? ⟨gb753, 0, none⟩ = some (.int .i64 a1_0) ∧ w29.cell? ⟨gb753, 1, none⟩ = some (.int .i64 a1_1) ∧ w29.cell? ⟨gb753, 2, none⟩ = some (.int .i64 a1_2) ∧ w29.cell? ⟨gb753, 3, none⟩ = some (.int .i64 a1_3) ∧ w29.cell? ⟨gb753, 4, none⟩ = some (.int .i64 a1_4) ∧ w29.cell? ⟨gb753, 5, none⟩ = some (.int .i64 a1_5) ∧ w29.cell? ⟨gb753, 6, none⟩ = some (.int .i64 a1_6) ∧ w29.cell? ⟨gb753, 7, none⟩ = some (.int .i64 a1_7) := hS_
  obtain ⟨Ao32, co32, eo32⟩ := Kd.R_slice HO772.out
  (first | subst eo32 | (injection eo32 with f1_ f2_ f3_; have f4_ := f1_.symm; have f5_ := f3_.symm; clear f1_ f2_ f3_; subst f4_; subst f5_))
  refine norm_ (a' := ?_) ?_ ?_
  rotate_left
  ·simp only [putAll, Act.put, List.setIfInBounds_toArray, List.set_cons_zero, List.set_cons_succ]
   rfl
  refine one_ (i := 10) (N := none) #[true, true, true, true, true, true, true, true, true, true, true, false] rfl rfl (one_of HT_.out (by kernel_rfl)) (by decide) (fun K hK => ?_)
  have hs30 : w29.cell? ⟨gb774, 0, none⟩ = some (.int .i64 0) := bt BK774 rfl
  have hfs30 := blk_frozen BK774.out 0
  have hns30_0 := NB752_774.out
  have hns30_1 := NB753_774.out
  have hms30_0 := NB774_752.out
  have hms30_1 := NB774_753.out
  have hs31 : w29.cell? ⟨gb774, 1, none⟩ = some (.int .i64 0) := bt BK774 rfl
  have hfs31 := blk_frozen BK774.out 1
  have hns31_0 := NB752_774.out
  have hns31_1 := NB753_774.out
  have hms31_0 := NB774_752.out
  have hms31_1 := NB774_753.out
  have hs33 : w29.cell? ⟨gb774, 2, none⟩ = some (.slice none 0 0) := bt BK774 rfl
  have hfs33 := blk_frozen BK774.out 2
  have hns33_0 := NB752_774.out
  have hns33_1 := NB753_774.out
  have hms33_0 := NB774_752.out
  have hms33_1 := NB774_753.out
  refine skip_ (w1 := ?_) (by rfl) rfl ?_ ?_
  rotate_left
  ·go_simp
   rfl
  refine hK.out _ _ ⟨((cell_far (p := ⟨gb774, _, none⟩) NB752_774.out _).trans (((cell_far (p := ⟨gb774, _, none⟩) NB752_774.out _).trans (((cell_far (p := ⟨gb774, _, none⟩) NB752_774.out _).trans (hHeld.1)))))), ((cell_far (p := ⟨gb774, _, none⟩) NB752_774.out _).trans (((cell_far (p := ⟨gb774, _, none⟩) NB752_774.out _).trans (((cell_far (p := ⟨gb774, _, none⟩) NB752_774.out _).trans (hHeld.2.1)))))), ((cell_far (p := ⟨gb774, _, none⟩) NB752_774.out _).trans (((cell_far (p := ⟨gb774, _, none⟩) NB752_774.out _).trans (((cell_far (p := ⟨gb774, _, none⟩) NB752_774.out _).trans (hHeld.2.2.1)))))), ((cell_far (p := ⟨gb774, _, none⟩) NB753_774.out _).trans (((cell_far (p := ⟨gb774, _, none⟩) NB753_774.out _).trans (((cell_far (p := ⟨gb774, _, none⟩) NB753_774.out _).trans (hHeld.2.2.2.1)))))), ((cell_far (p := ⟨gb774, _, none⟩) NB753_774.out _).trans (((cell_far (p := ⟨gb774, _, none⟩) NB753_774.out _).trans (((cell_far (p := ⟨gb774, _, none⟩) NB753_774.out _).trans (hHeld.2.2.2.2.1)))))), ((cell_far (p := ⟨gb774, _, none⟩) NB753_774.out _).trans (((cell_far (p := ⟨gb774, _, none⟩) NB753_774.out _).trans (((cell_far (p := ⟨gb774, _, none⟩) NB753_774.out _).trans (hHeld.2.2.2.2.2.1)))))), ((cell_far (p := ⟨gb774, _, none⟩) NB753_774.out _).trans (((cell_far (p := ⟨gb774, _, none⟩) NB753_774.out _).trans (((cell_far (p := ⟨gb774, _, none⟩) NB753_774.out _).trans (hHeld.2.2.2.2.2.2.1)))))), ((cell_far (p := ⟨gb774, _, none⟩) NB753_774.out _).trans (((cell_far (p := ⟨gb774, _, none⟩) NB753_774.out _).trans (((cell_far (p := ⟨gb774, _, none⟩) NB753_774.out _).trans (hHeld.2.2.2.2.2.2.2.1)))))), ((cell_far (p := ⟨gb774, _, none⟩) NB753_774.out _).trans (((cell_far (p := ⟨gb774, _, none⟩) NB753_774.out _).trans (((cell_far (p := ⟨gb774, _, none⟩) NB753_774.out _).trans (hHeld.2.2.2.2.2.2.2.2.1)))))), ((cell_far (p := ⟨gb774, _, none⟩) NB753_774.out _).trans (((cell_far (p := ⟨gb774, _, none⟩) NB753_774.out _).trans (((cell_far (p := ⟨gb774, _, none⟩) NB753_774.out _).trans (hHeld.2.2.2.2.2.2.2.2.2.1)))))), ((cell_far (p := ⟨gb774, _, none⟩) NB753_774.out _).trans (((cell_far (p := ⟨gb774, _, none⟩) NB753_774.out _).trans (((cell_far (p := ⟨gb774, _, none⟩) NB753_774.out _).trans (hHeld.2.2.2.2.2.2.2.2.2.2))))))⟩ (fun hHeld => ?_)
  clear hK K
  refine pure_ (i := 11) (N := some 9) (v := ?_) (a' := ?_) #[true, true, true, true, true, true, true, true, true, true, true, true] rfl rfl (any_of HT_.out (by kernel_rfl)) (fun _ _ _ h => h) (Or.inl ⟨by rfl, ?_⟩) ?_ ?_
  rotate_left
  ·intro w'
   go_simp
   with_reducible rfl
  rotate_left
  ·simp only [Act.put, List.setIfInBounds_toArray, List.set_cons_zero, List.set_cons_succ, i64_w, i32_w]
   rfl
  refine done_ (done_of HT_.out (by kernel_rfl)) ?_
  have hnb34 := NB752_774.out
  have hnc34 := NB774_752.out
  obtain ⟨hcz35_0, hcz35_1, hcz35_2⟩ := cz3 BK752
  obtain ⟨hfz35_0, hfz35_1, hfz35_2⟩ := fz3 BK752
  try go_wp2_with (first | ((with_reducible refine gate_callee (f := 51) rfl ?_); refine goesL_ (some 33) rfl rfl Try.func51 (by kernel_rfl) rfl #[.agg #[.int .i64 a0_0, .int .i64 a0_1, .slice A0_2 l0_2.length c0_2]] rfl (by (try simp only [List.map_toArray, List.map_cons, List.map_nil]); first | done | rfl | (simp only [List.length_drop, List.length_take]; rfl)) ?_; (with_reducible refine (laws_toPage.calls k a0_0 a0_1 _ _ l0_2 t775 t776 t777 _ ?side1 ?side2 A14.out).mono ?_); (case side1 => exact Kd.C_below HR0_2.out (by repeat (first | (with_reducible first | exact HB.out | apply wa | apply wn | apply wd | refine ws ‹_› ?_) | exact HB.out))); (case side2 => exact HC0_2.out); rintro e w36 ⟨v778, rfl, ho0, hb⟩; refine ⟨_, rfl, ?_⟩; have HO779 := az (Kd.R_lower (Kd.R_new' (Kd.R_new' ho0 (Kd.R_lt (by (with_reducible repeat (first | apply Kd.R_alloc | apply Kd.R_drewN | apply Kd.R_drew)); exact (fR3 HO759.out BK774.out (by decide))))) (Kd.R_lt (by (with_reducible repeat (first | apply Kd.R_alloc | apply Kd.R_drewN | apply Kd.R_drew)); exact (fR3 HO772.out BK774.out (by decide))))) (below_size (by repeat (first | (with_reducible first | exact HB.out | apply wa | apply wn | apply wd | refine ws ‹_› ?_) | exact HB.out)))); replace HO759 := az (Kd.R_elder' (by (with_reducible repeat (first | apply Kd.R_alloc | apply Kd.R_drewN | apply Kd.R_drew)); exact (fR3 HO759.out BK774.out (by decide))) (Kd.R_base ho0) hb); replace HO772 := az (Kd.R_elder' (by (with_reducible repeat (first | apply Kd.R_alloc | apply Kd.R_drewN | apply Kd.R_drew)); exact (fR3 HO772.out BK774.out (by decide))) (Kd.R_base ho0) hb); replace BK752 := az (blk_below (g := gb752) (o := .cells #[.int .i64 a0_0, .int .i64 a0_1, .slice A0_2 l0_2.length c0_2] 57 (0, 0)) (by (repeat (first | (with_reducible first | apply bn | apply bd | apply ba) | apply bf NB752_774)); exact BK752.out) hb); replace BK753 := az (blk_below (g := gb753) (o := .cells #[.int .i64 a1_0, .int .i64 a1_1, .int .i64 a1_2, .int .i64 a1_3, .int .i64 a1_4, .int .i64 a1_5, .int .i64 a1_6, .int .i64 a1_7] 58 (0, 0)) (by (repeat (first | (with_reducible first | apply bn | apply bd | apply ba) | apply bf NB753_774)); exact BK753.out) hb); replace BK774 := az (blk_below (g := gb774) (o := .cells #[.int .i64 t768, .int .i64 t769, .slice Ao32 t770.length co32] 25 (0, 0)) (by (with_reducible repeat (first | apply bn | apply bd | apply ba)); exact p3 BK774) hb); replace HB := az (below_step (by repeat (first | (with_reducible first | exact HB.out | apply wa | apply wn | apply wd | refine ws ‹_› ?_) | exact HB.out)) hb); (try clear hb); (try clear hb2); (try clear hk); (try clear hi); (try clear ho0)) | ((with_reducible refine gate_dst (N := 10) rfl ?_); refine box_event ?hg (N := 10) ?hd (cs := #[.int .i64 0, .int .i64 0, .slice none 0 0]) (t := 25) ?hr ?_; (case hd => rfl); (case hg => rfl); (case hr => first | (go_simp; done) | (go_simp; rfl)); intro gb780 hg w37 hbox hb; replace HO759 := az (Kd.R_below (by (with_reducible repeat (first | apply Kd.R_alloc | apply Kd.R_drewN | apply Kd.R_drew)); exact HO759.out) hb); replace HO772 := az (Kd.R_below (by (with_reducible repeat (first | apply Kd.R_alloc | apply Kd.R_drewN | apply Kd.R_drew)); exact HO772.out) hb); replace HO779 := az (Kd.R_below (by (with_reducible repeat (first | apply Kd.R_alloc | apply Kd.R_drewN | apply Kd.R_drew)); exact HO779.out) hb); have BK780 := az (hbox); have GW780 := az ((by rw [hg]; exact (below_size (by repeat (first | (with_reducible first | exact HB.out | apply wa | apply wn | apply wd | refine ws ‹_› ?_) | exact HB.out))) : w.heap.size ≤ gb780)); have GE780 := GW780; replace HB := az (below_step (by repeat (first | (with_reducible first | exact HB.out | apply wa | apply wn | apply wd | refine ws ‹_› ?_) | exact HB.out)) hb); obtain ⟨NB752_780, NB780_752⟩ := nb BK752 hg (fun h => by (with_reducible repeat (first | apply bn | apply bd | apply ba)); exact h); replace BK752 := bb BK752 (fun h => by (with_reducible repeat (first | apply bn | apply bd | apply ba)); exact h) hb; obtain ⟨NB753_780, NB780_753⟩ := nb BK753 hg (fun h => by (with_reducible repeat (first | apply bn | apply bd | apply ba)); exact h); replace BK753 := bb BK753 (fun h => by (with_reducible repeat (first | apply bn | apply bd | apply ba)); exact h) hb; obtain ⟨NB774_780, NB780_774⟩ := nb BK774 hg (fun h => by (with_reducible repeat (first | apply bn | apply bd | apply ba)); exact h); replace BK774 := bb BK774 (fun h => by (with_reducible repeat (first | apply bn | apply bd | apply ba)); exact h) hb; clear hb hbox hg; have hnb38 := NB780_752.out; have hnc38 := NB752_780.out; have hnb39 := NB780_753.out; have hnc39 := NB753_780.out; have hnb40 := NB780_774.out; have hnc40 := NB774_780.out; obtain ⟨hcz41_0, hcz41_1, hcz41_2⟩ := cz3 BK780; obtain ⟨hfz41_0, hfz41_1, hfz41_2⟩ := fz3 BK780; obtain ⟨Ao42, co42, eo42⟩ := Kd.R_slice HO779.out; subst eo42))
  have n0_ : Aside0 (Kd.R (Kd.int .i64) 3 (((w37.setCell ⟨gb780, 0, none⟩ (.int .i64 t775)).setCell ⟨gb780, 1, none⟩ (.int .i64 t776)).setCell ⟨gb780, 2, none⟩ (.slice Ao42 t777.length co42)) w.heap.size (fun k_ => some k_ ≠ (.slice Ao32 t770.length co32 : Value).ownBlock ∧ some k_ ≠ (.slice Ao42 t777.length co42 : Value).ownBlock) v758 t757) := ⟨by (with_reducible repeat (first | apply Kd.R_alloc | apply Kd.R_drewN | apply Kd.R_drew)); exact Kd.R_mono (Kd.R_far (p := ⟨gb780, 2, none⟩) (Kd.R_far (p := ⟨gb780, 1, none⟩) (Kd.R_far (p := ⟨gb780, 0, none⟩) (Kd.R_types HO759.out BK780.out (by decide)) (fun _ hk => hk.2) (.int .i64 t775)) (fun _ hk => hk.2) (.int .i64 t776)) (fun _ hk => hk.2) (.slice Ao42 t777.length co42)) (fun _ hk => ⟨hk.1.1, hk.1.2⟩)⟩
  have n1_ : Aside0 (Kd.R (Kd.int .i64) 3 (((w37.setCell ⟨gb780, 0, none⟩ (.int .i64 t775)).setCell ⟨gb780, 1, none⟩ (.int .i64 t776)).setCell ⟨gb780, 2, none⟩ (.slice Ao42 t777.length co42)) w.heap.size (fun k_ => some k_ ≠ (v758 : Value).ownBlock ∧ some k_ ≠ (.slice Ao42 t777.length co42 : Value).ownBlock) (.slice Ao32 t770.length co32) t770) := ⟨by (with_reducible repeat (first | apply Kd.R_alloc | apply Kd.R_drewN | apply Kd.R_drew)); exact Kd.R_mono (Kd.R_far (p := ⟨gb780, 2, none⟩) (Kd.R_far (p := ⟨gb780, 1, none⟩) (Kd.R_far (p := ⟨gb780, 0, none⟩) (Kd.R_types HO772.out BK780.out (by decide)) (fun _ hk => hk.2) (.int .i64 t775)) (fun _ hk => hk.2) (.int .i64 t776)) (fun _ hk => hk.2) (.slice Ao42 t777.length co42)) (fun _ hk => ⟨hk.1.1, hk.1.2⟩)⟩
  have n2_ : Aside0 (Kd.R (Kd.int .i64) 3 (((w37.setCell ⟨gb780, 0, none⟩ (.int .i64 t775)).setCell ⟨gb780, 1, none⟩ (.int .i64 t776)).setCell ⟨gb780, 2, none⟩ (.slice Ao42 t777.length co42)) w.heap.size (fun k_ => some k_ ≠ (v758 : Value).ownBlock ∧ some k_ ≠ (.slice Ao32 t770.length co32 : Value).ownBlock) (.slice Ao42 t777.length co42) t777) := ⟨by (with_reducible repeat (first | apply Kd.R_alloc | apply Kd.R_drewN | apply Kd.R_drew)); exact Kd.R_mono (Kd.R_far (p := ⟨gb780, 2, none⟩) (Kd.R_far (p := ⟨gb780, 1, none⟩) (Kd.R_far (p := ⟨gb780, 0, none⟩) (Kd.R_types HO779.out BK780.out (by decide)) (fun _ hk => hk.2) (.int .i64 t775)) (fun _ hk => hk.2) (.int .i64 t776)) (fun _ hk => hk.2) (.slice Ao42 t777.length co42)) (fun _ hk => ⟨hk.1.1.2, hk.1.2⟩)⟩
  have n3_ : Aside0 ((((w37.setCell ⟨gb780, 0, none⟩ (.int .i64 t775)).setCell ⟨gb780, 1, none⟩ (.int .i64 t776)).setCell ⟨gb780, 2, none⟩ (.slice Ao42 t777.length co42)).heap[gb752]? = some (.cells #[.int .i64 a0_0, .int .i64 a0_1, .slice A0_2 l0_2.length c0_2] 57 (0, 0))) := ⟨by (repeat (first | (with_reducible first | apply bn | apply bd | apply ba) | apply bf NB752_780)); exact BK752.out⟩
  have n4_ : Aside0 ((((w37.setCell ⟨gb780, 0, none⟩ (.int .i64 t775)).setCell ⟨gb780, 1, none⟩ (.int .i64 t776)).setCell ⟨gb780, 2, none⟩ (.slice Ao42 t777.length co42)).heap[gb753]? = some (.cells #[.int .i64 a1_0, .int .i64 a1_1, .int .i64 a1_2, .int .i64 a1_3, .int .i64 a1_4, .int .i64 a1_5, .int .i64 a1_6, .int .i64 a1_7] 58 (0, 0))) := ⟨by (repeat (first | (with_reducible first | apply bn | apply bd | apply ba) | apply bf NB753_780)); exact BK753.out⟩
  have n5_ : Aside0 ((((w37.setCell ⟨gb780, 0, none⟩ (.int .i64 t775)).setCell ⟨gb780, 1, none⟩ (.int .i64 t776)).setCell ⟨gb780, 2, none⟩ (.slice Ao42 t777.length co42)).heap[gb774]? = some (.cells #[.int .i64 t768, .int .i64 t769, .slice Ao32 t770.length co32] 25 (0, 0))) := ⟨by (repeat (first | (with_reducible first | apply bn | apply bd | apply ba) | apply bf NB774_780)); exact BK774.out⟩
  have n6_ : Aside0 ((((w37.setCell ⟨gb780, 0, none⟩ (.int .i64 t775)).setCell ⟨gb780, 1, none⟩ (.int .i64 t776)).setCell ⟨gb780, 2, none⟩ (.slice Ao42 t777.length co42)).heap[gb780]? = some (.cells #[.int .i64 t775, .int .i64 t776, .slice Ao42 t777.length co42] 25 (0, 0))) := ⟨by (with_reducible repeat (first | apply bn | apply bd | apply ba)); exact p3 BK780⟩
  have n7_ : Aside0 (Below w.heap.size w (((w37.setCell ⟨gb780, 0, none⟩ (.int .i64 t775)).setCell ⟨gb780, 1, none⟩ (.int .i64 t776)).setCell ⟨gb780, 2, none⟩ (.slice Ao42 t777.length co42))) := ⟨by repeat (first | (with_reducible first | exact HB.out | apply wa | apply wn | apply wd | refine ws ‹_› ?_) | exact HB.out)⟩
  (try clear HO759);(try clear HO772);(try clear HO779);(try clear BK752);(try clear BK753);(try clear BK774);(try clear BK780);(try clear HB)
  generalize (((w37.setCell ⟨gb780, 0, none⟩ (.int .i64 t775)).setCell ⟨gb780, 1, none⟩ (.int .i64 t776)).setCell ⟨gb780, 2, none⟩ (.slice Ao42 t777.length co42)) = w43 at n0_ n1_ n2_ n3_ n4_ n5_ n6_ n7_ ⊢
  have HO759 := n0_
  have HO772 := n1_
  have HO779 := n2_
  have BK752 := n3_
  have BK753 := n4_
  have BK774 := n5_
  have BK780 := n6_
  have HB := n7_
  clear n0_ n1_ n2_ n3_ n4_ n5_ n6_ n7_
  replace HO759 := az (Kd.R_drew HO759.out)
  replace HO772 := az (Kd.R_drew HO772.out)
  replace HO779 := az (Kd.R_drew HO779.out)
  replace BK752 := az (blk_drew BK752.out)
  replace BK753 := az (blk_drew BK753.out)
  replace BK774 := az (blk_drew BK774.out)
  replace BK780 := az (blk_drew BK780.out)
  replace HB := az (wd HB.out)
  refine start_ (n := 11) (S := fun w' => w'.cell? ⟨gb780, 0, none⟩ = some (.int .i64 t775) ∧ w'.cell? ⟨gb780, 1, none⟩ = some (.int .i64 t776) ∧ w'.cell? ⟨gb780, 2, none⟩ = some (.slice Ao42 t777.length co42) ∧ w'.cell? ⟨gb753, 0, none⟩ = some (.int .i64 a1_0) ∧ w'.cell? ⟨gb753, 1, none⟩ = some (.int .i64 a1_1) ∧ w'.cell? ⟨gb753, 2, none⟩ = some (.int .i64 a1_2) ∧ w'.cell? ⟨gb753, 3, none⟩ = some (.int .i64 a1_3) ∧ w'.cell? ⟨gb753, 4, none⟩ = some (.int .i64 a1_4) ∧ w'.cell? ⟨gb753, 5, none⟩ = some (.int .i64 a1_5) ∧ w'.cell? ⟨gb753, 6, none⟩ = some (.int .i64 a1_6) ∧ w'.cell? ⟨gb753, 7, none⟩ = some (.int .i64 a1_7)) (ds := []) #[false, false, false, false, false, false, false, false, false, false, false] (by kernel_rfl) rfl rfl ⟨bt BK780 rfl, bt BK780 rfl, bt BK780 rfl, bt BK753 rfl, bt BK753 rfl, bt BK753 rfl, bt BK753 rfl, bt BK753 rfl, bt BK753 rfl, bt BK753 rfl, bt BK753 rfl⟩ (fun hHeld => ?_); refine with_tabW laws_FnExactRecDo.tab7 laws_FnExactRecDo.bits7 (fun HT_ HW_ => ?_)
  generalize w43.drew = w44 at HO759 HO772 HO779 BK752 BK753 BK774 BK780 HB hHeld ⊢
  refine pure_ (i := 3) (N := some 38) (v := ?_) (a' := ?_) #[false, false, false, true, false, false, false, false, false, false, false] rfl rfl (any_of HT_.out (by kernel_rfl)) (fun _ _ _ h => h) (Or.inl ⟨by rfl, ?_⟩) ?_ ?_
  rotate_left
  ·intro w'
   go_simp
   with_reducible rfl
  rotate_left
  ·simp only [Act.put, List.setIfInBounds_toArray, List.set_cons_zero, List.set_cons_succ, i64_w, i32_w]
   rfl
  refine take_ (i := 0) (N := some 35) (v := ?_) (a' := ?_) #[true, false, false, true, false, false, false, false, false, false, false] rfl rfl (take_ofW HT_.out HW_.out (by kernel_rfl)) (fun _ _ _ h => h) (Or.inl ⟨by rfl, ?_⟩) hHeld ?_ ?_
  rotate_left
  ·rintro w' ⟨s0, s1, s2, s3, s4, s5, s6, s7, s8, s9, s10⟩
   go_simp
   with_reducible rfl
  rotate_left
  ·simp only [Act.put, List.setIfInBounds_toArray, List.set_cons_zero, List.set_cons_succ, i64_w, i32_w]
   rfl
  refine take_ (i := 1) (N := some 36) (v := ?_) (a' := ?_) #[true, true, false, true, false, false, false, false, false, false, false] rfl rfl (take_ofW HT_.out HW_.out (by kernel_rfl)) (fun _ _ _ h => h) (Or.inl ⟨by rfl, ?_⟩) hHeld ?_ ?_
  rotate_left
  ·rintro w' ⟨s0, s1, s2, s3, s4, s5, s6, s7, s8, s9, s10⟩
   go_simp
   with_reducible rfl
  rotate_left
  ·simp only [Act.put, List.setIfInBounds_toArray, List.set_cons_zero, List.set_cons_succ, i64_w, i32_w]
   rfl
  refine join_ (σ := Value × Nat) 2 #[true, true, true, true, true, true, true, true, true, false, false] (fun s_ => [(37, .agg #[.int .i64 t781, .int .i64 t782, .int .i64 t783, .int .i64 t784, .int .i64 t785, .int .i64 t786, .int .i64 t787, .int .i64 t788]), (39, .tuple #[.agg #[.int .i64 t789, .int .i64 t790, s_.1], .bool t794]), (11, .pointer (some ⟨s_.2, 0, none⟩)), (34, .tuple #[.agg #[.int .i64 t789, .int .i64 t790, s_.1], .bool t794]), (40, .agg #[.int .i64 t789, .int .i64 t790, s_.1]), (41, .bool t794)]) (fun s_ w' => (w'.cell? ⟨gb780, 0, none⟩ = some (.int .i64 t775) ∧ w'.cell? ⟨gb780, 1, none⟩ = some (.int .i64 t776) ∧ w'.cell? ⟨gb780, 2, none⟩ = some (.slice Ao42 t777.length co42) ∧ w'.cell? ⟨gb753, 0, none⟩ = some (.int .i64 a1_0) ∧ w'.cell? ⟨gb753, 1, none⟩ = some (.int .i64 a1_1) ∧ w'.cell? ⟨gb753, 2, none⟩ = some (.int .i64 a1_2) ∧ w'.cell? ⟨gb753, 3, none⟩ = some (.int .i64 a1_3) ∧ w'.cell? ⟨gb753, 4, none⟩ = some (.int .i64 a1_4) ∧ w'.cell? ⟨gb753, 5, none⟩ = some (.int .i64 a1_5) ∧ w'.cell? ⟨gb753, 6, none⟩ = some (.int .i64 a1_6) ∧ w'.cell? ⟨gb753, 7, none⟩ = some (.int .i64 a1_7)) ∧ (Kd.R (Kd.int .i64) 3 w' w.heap.size (fun k_ => some k_ ≠ (.slice Ao32 t770.length co32 : Value).ownBlock ∧ some k_ ≠ (.slice Ao42 t777.length co42 : Value).ownBlock ∧ some k_ ≠ (s_.1 : Value).ownBlock) v758 t757) ∧ (Kd.R (Kd.int .i64) 3 w' w.heap.size (fun k_ => some k_ ≠ (v758 : Value).ownBlock ∧ some k_ ≠ (.slice Ao42 t777.length co42 : Value).ownBlock ∧ some k_ ≠ (s_.1 : Value).ownBlock) (.slice Ao32 t770.length co32) t770) ∧ (Kd.R (Kd.int .i64) 3 w' w.heap.size (fun k_ => some k_ ≠ (v758 : Value).ownBlock ∧ some k_ ≠ (.slice Ao32 t770.length co32 : Value).ownBlock ∧ some k_ ≠ (s_.1 : Value).ownBlock) (.slice Ao42 t777.length co42) t777) ∧ (Kd.R (Kd.int .i64) 3 w' w.heap.size (fun k_ => some k_ ≠ (v758 : Value).ownBlock ∧ some k_ ≠ (.slice Ao32 t770.length co32 : Value).ownBlock ∧ some k_ ≠ (.slice Ao42 t777.length co42 : Value).ownBlock) s_.1 t791) ∧ (w'.heap[gb752]? = some (.cells #[.int .i64 a0_0, .int .i64 a0_1, .slice A0_2 l0_2.length c0_2] 57 (0, 0))) ∧ (w'.heap[gb753]? = some (.cells #[.int .i64 a1_0, .int .i64 a1_1, .int .i64 a1_2, .int .i64 a1_3, .int .i64 a1_4, .int .i64 a1_5, .int .i64 a1_6, .int .i64 a1_7] 58 (0, 0))) ∧ (w'.heap[gb774]? = some (.cells #[.int .i64 t768, .int .i64 t769, .slice Ao32 t770.length co32] 25 (0, 0))) ∧ (w'.heap[gb780]? = some (.cells #[.int .i64 t775, .int .i64 t776, .slice Ao42 t777.length co42] 25 (0, 0))) ∧ (w'.heap[s_.2]? = some (.cells #[.int .i64 0, .int .i64 0, .slice none 0 0] 25 (0, 0))) ∧ (w.heap.size ≤ s_.2) ∧ (w.heap.size ≤ s_.2) ∧ (gb752 ≠ s_.2) ∧ (s_.2 ≠ gb752) ∧ (gb753 ≠ s_.2) ∧ (s_.2 ≠ gb753) ∧ (gb774 ≠ s_.2) ∧ (s_.2 ≠ gb774) ∧ (gb780 ≠ s_.2) ∧ (s_.2 ≠ gb780) ∧ (Below w.heap.size w w')) ?_ ?_
  rotate_left
  ·intro hCont
   refine two_ (i := 2) (j := 8) (Ni := some 37) (Nj := some 11) #[true, true, true, true, false, false, false, false, false, false, false] #[true, true, false, true, false, false, false, false, true, false, false] rfl rfl rfl rfl (two_of HT_.out (by kernel_rfl)) (by decide) (by decide) (fun K hK => ?_) (fun K hK => ?_)
   ·skip
    refine goes_ Try.func52 (by kernel_rfl) rfl #[.agg #[.int .i64 a1_0, .int .i64 a1_1, .int .i64 a1_2, .int .i64 a1_3, .int .i64 a1_4, .int .i64 a1_5, .int .i64 a1_6, .int .i64 a1_7]] (by rfl) rfl rfl (by (try simp only [List.map_toArray, List.map_cons, List.map_nil]); first | done | rfl | (simp only [List.length_drop, List.length_take]; rfl)) ?_
    with_reducible refine (laws_toRec.calls a1_0 a1_1 a1_2 a1_3 a1_4 a1_5 a1_6 a1_7 t781 t782 t783 t784 t785 t786 t787 t788 _ A15.out).mono ?_
    rintro e w45 ⟨rfl, hb⟩
    refine ⟨_, rfl, ?_⟩
    replace HO759 := az (Kd.R_below (by (with_reducible repeat (first | apply Kd.R_alloc | apply Kd.R_drewN | apply Kd.R_drew)); exact HO759.out) hb)
    replace HO772 := az (Kd.R_below (by (with_reducible repeat (first | apply Kd.R_alloc | apply Kd.R_drewN | apply Kd.R_drew)); exact HO772.out) hb)
    replace HO779 := az (Kd.R_below (by (with_reducible repeat (first | apply Kd.R_alloc | apply Kd.R_drewN | apply Kd.R_drew)); exact HO779.out) hb)
    replace BK752 := bb BK752 (fun h => by (with_reducible repeat (first | apply bn | apply bd | apply ba)); exact h) hb
    replace BK753 := bb BK753 (fun h => by (with_reducible repeat (first | apply bn | apply bd | apply ba)); exact h) hb
    replace BK774 := bb BK774 (fun h => by (with_reducible repeat (first | apply bn | apply bd | apply ba)); exact h) hb
    replace BK780 := bb BK780 (fun h => by (with_reducible repeat (first | apply bn | apply bd | apply ba)); exact h) hb
    replace HB := az (below_step (by repeat (first | (with_reducible first | exact HB.out | apply wa | apply wn | apply wd | refine ws ‹_› ?_) | exact HB.out)) hb)
    (try clear hb);(try clear hb2);(try clear hk);(try clear hi)
    refine hK.out _ _ ⟨bt BK780 rfl, bt BK780 rfl, bt BK780 rfl, bt BK753 rfl, bt BK753 rfl, bt BK753 rfl, bt BK753 rfl, bt BK753 rfl, bt BK753 rfl, bt BK753 rfl, bt BK753 rfl⟩ (fun hHeld => ?_)
    clear hK K
    refine norm_ (a' := ?_) ?_ ?_
    rotate_left
    ·show Act.put _ (some 37) _ = _
     simp only [Act.put, List.setIfInBounds_toArray, List.set_cons_zero, List.set_cons_succ, i64_w, i32_w]
     rfl
    refine two_ (i := 4) (j := 8) (Ni := some 39) (Nj := some 11) #[true, true, true, true, true, false, false, false, false, false, false] #[true, true, true, true, false, false, false, false, true, false, false] rfl rfl rfl rfl (two_of HT_.out (by kernel_rfl)) (by decide) (by decide) (fun K hK => ?_) (fun K hK => ?_)
    ·skip
     refine goes_ Try.func42 (by kernel_rfl) rfl #[.agg #[.int .i64 t775, .int .i64 t776, .slice Ao42 t777.length co42], .agg #[.int .i64 t781, .int .i64 t782, .int .i64 t783, .int .i64 t784, .int .i64 t785, .int .i64 t786, .int .i64 t787, .int .i64 t788], .int .i64 a2] (by rfl) rfl rfl (by (try simp only [List.map_toArray, List.map_cons, List.map_nil]); first | done | rfl | (simp only [List.length_drop, List.length_take]; rfl)) ?_
     with_reducible refine (impl_RecDo.calls k t775 t776 _ _ t777 t781 t782 t783 t784 t785 t786 t787 t788 a2 t789 t790 t791 t794 _ ?side1 ?side2 A16.out).mono ?_
     (case side1 => repeat (first | exact (Kd.R_reads' HO779.out).2.2 | (with_reducible refine Kd.C_alloc ?_ _) | (with_reducible refine Kd.C_drewN ?_ _) | (with_reducible refine Kd.C_drew ?_)))
     (case side2 => exact (Kd.R_reads' HO779.out).2.1)
     rintro e w46 ⟨v792, rfl, ho0, hb⟩
     refine ⟨_, rfl, ?_⟩
     have HO793 := az (Kd.R_lower (Kd.R_new' (Kd.R_new' (Kd.R_new' ho0 (Kd.R_lt (by (with_reducible repeat (first | apply Kd.R_alloc | apply Kd.R_drewN | apply Kd.R_drew)); exact HO759.out))) (Kd.R_lt (by (with_reducible repeat (first | apply Kd.R_alloc | apply Kd.R_drewN | apply Kd.R_drew)); exact HO772.out))) (Kd.R_lt (by (with_reducible repeat (first | apply Kd.R_alloc | apply Kd.R_drewN | apply Kd.R_drew)); exact HO779.out))) (below_size (by repeat (first | (with_reducible first | exact HB.out | apply wa | apply wn | apply wd | refine ws ‹_› ?_) | exact HB.out))))
     replace HO759 := az (Kd.R_elder' (by (with_reducible repeat (first | apply Kd.R_alloc | apply Kd.R_drewN | apply Kd.R_drew)); exact HO759.out) (Kd.R_base ho0) hb)
     replace HO772 := az (Kd.R_elder' (by (with_reducible repeat (first | apply Kd.R_alloc | apply Kd.R_drewN | apply Kd.R_drew)); exact HO772.out) (Kd.R_base ho0) hb)
     replace HO779 := az (Kd.R_elder' (by (with_reducible repeat (first | apply Kd.R_alloc | apply Kd.R_drewN | apply Kd.R_drew)); exact HO779.out) (Kd.R_base ho0) hb)
     replace BK752 := bb BK752 (fun h => by (with_reducible repeat (first | apply bn | apply bd | apply ba)); exact h) hb
     replace BK753 := bb BK753 (fun h => by (with_reducible repeat (first | apply bn | apply bd | apply ba)); exact h) hb
     replace BK774 := bb BK774 (fun h => by (with_reducible repeat (first | apply bn | apply bd | apply ba)); exact h) hb
     replace BK780 := bb BK780 (fun h => by (with_reducible repeat (first | apply bn | apply bd | apply ba)); exact h) hb
     replace HB := az (below_step (by repeat (first | (with_reducible first | exact HB.out | apply wa | apply wn | apply wd | refine ws ‹_› ?_) | exact HB.out)) hb)
     (try clear hb);(try clear hb2);(try clear hk);(try clear hi);(try clear ho0)
     refine hK.out _ _ ⟨bt BK780 rfl, bt BK780 rfl, bt BK780 rfl, bt BK753 rfl, bt BK753 rfl, bt BK753 rfl, bt BK753 rfl, bt BK753 rfl, bt BK753 rfl, bt BK753 rfl, bt BK753 rfl⟩ (fun hHeld => ?_)
     clear hK K
     refine norm_ (a' := ?_) ?_ ?_
     rotate_left
     ·show Act.put _ (some 39) _ = _
      simp only [Act.put, List.setIfInBounds_toArray, List.set_cons_zero, List.set_cons_succ, i64_w, i32_w]
      rfl
     refine pure_ (i := 5) (N := some 34) (v := ?_) (a' := ?_) #[true, true, true, true, true, true, false, false, false, false, false] rfl rfl (any_of HT_.out (by kernel_rfl)) (fun _ _ _ h => h) (Or.inl ⟨by rfl, ?_⟩) ?_ ?_
     rotate_left
     ·intro w'
      go_simp
      with_reducible rfl
     rotate_left
     ·simp only [Act.put, List.setIfInBounds_toArray, List.set_cons_zero, List.set_cons_succ, i64_w, i32_w]
      rfl
     refine pure_ (i := 6) (N := some 40) (v := ?_) (a' := ?_) #[true, true, true, true, true, true, true, false, false, false, false] rfl rfl (any_of HT_.out (by kernel_rfl)) (fun _ _ _ h => h) (Or.inl ⟨by rfl, ?_⟩) ?_ ?_
     rotate_left
     ·intro w'
      go_simp
      with_reducible rfl
     rotate_left
     ·simp only [Act.put, List.setIfInBounds_toArray, List.set_cons_zero, List.set_cons_succ, i64_w, i32_w]
      rfl
     refine pure_ (i := 7) (N := some 41) (v := ?_) (a' := ?_) #[true, true, true, true, true, true, true, true, false, false, false] rfl rfl (any_of HT_.out (by kernel_rfl)) (fun _ _ _ h => h) (Or.inl ⟨by rfl, ?_⟩) ?_ ?_
     rotate_left
     ·intro w'
      go_simp
      with_reducible rfl
     rotate_left
     ·simp only [Act.put, List.setIfInBounds_toArray, List.set_cons_zero, List.set_cons_succ, i64_w, i32_w]
      rfl
     refine one_ (i := 8) (N := some 11) #[true, true, true, true, true, true, true, true, true, false, false] rfl rfl (one_of HT_.out (by kernel_rfl)) (by decide) (fun K hK => ?_)
     refine box_step ?hg (N := 11) ?hd (cs := #[.int .i64 0, .int .i64 0, .slice none 0 0]) (t := 25) ?hr ?_; (case hd => rfl); (case hg => rfl); (case hr => first | (go_simp; done) | (go_simp; rfl))
     intro gb795 hg w47 hbox hb
     replace HO759 := az (Kd.R_below (by (with_reducible repeat (first | apply Kd.R_alloc | apply Kd.R_drewN | apply Kd.R_drew)); exact HO759.out) hb)
     replace HO772 := az (Kd.R_below (by (with_reducible repeat (first | apply Kd.R_alloc | apply Kd.R_drewN | apply Kd.R_drew)); exact HO772.out) hb)
     replace HO779 := az (Kd.R_below (by (with_reducible repeat (first | apply Kd.R_alloc | apply Kd.R_drewN | apply Kd.R_drew)); exact HO779.out) hb)
     replace HO793 := az (Kd.R_below (by (with_reducible repeat (first | apply Kd.R_alloc | apply Kd.R_drewN | apply Kd.R_drew)); exact HO793.out) hb)
     have BK795 := az (hbox)
     have GW795 := az ((by rw [hg]; exact (below_size (by repeat (first | (with_reducible first | exact HB.out | apply wa | apply wn | apply wd | refine ws ‹_› ?_) | exact HB.out))) : w.heap.size ≤ gb795))
     have GE795 := GW795
     replace HB := az (below_step (by repeat (first | (with_reducible first | exact HB.out | apply wa | apply wn | apply wd | refine ws ‹_› ?_) | exact HB.out)) hb)
     obtain ⟨NB752_795, NB795_752⟩ := nb BK752 hg (fun h => by (with_reducible repeat (first | apply bn | apply bd | apply ba)); exact h)
     replace BK752 := bb BK752 (fun h => by (with_reducible repeat (first | apply bn | apply bd | apply ba)); exact h) hb
     obtain ⟨NB753_795, NB795_753⟩ := nb BK753 hg (fun h => by (with_reducible repeat (first | apply bn | apply bd | apply ba)); exact h)
     replace BK753 := bb BK753 (fun h => by (with_reducible repeat (first | apply bn | apply bd | apply ba)); exact h) hb
     obtain ⟨NB774_795, NB795_774⟩ := nb BK774 hg (fun h => by (with_reducible repeat (first | apply bn | apply bd | apply ba)); exact h)
     replace BK774 := bb BK774 (fun h => by (with_reducible repeat (first | apply bn | apply bd | apply ba)); exact h) hb
     obtain ⟨NB780_795, NB795_780⟩ := nb BK780 hg (fun h => by (with_reducible repeat (first | apply bn | apply bd | apply ba)); exact h)
     replace BK780 := bb BK780 (fun h => by (with_reducible repeat (first | apply bn | apply bd | apply ba)); exact h) hb
     clear hb hbox hg
     refine hK.out _ _ ⟨bt BK780 rfl, bt BK780 rfl, bt BK780 rfl, bt BK753 rfl, bt BK753 rfl, bt BK753 rfl, bt BK753 rfl, bt BK753 rfl, bt BK753 rfl, bt BK753 rfl, bt BK753 rfl⟩ (fun hHeld => ?_)
     clear hK K
     refine norm_ (a' := ?_) ?_ ?_
     rotate_left
     ·show Act.put _ (some 11) _ = _
      simp only [Act.put, List.setIfInBounds_toArray, List.set_cons_zero, List.set_cons_succ, i64_w, i32_w]
      rfl
     exact norm_ (by simp only [putAll, Act.put, List.setIfInBounds_toArray, List.set_cons_zero, List.set_cons_succ]) (hCont (v792, gb795) _ ⟨hHeld, (by (with_reducible repeat (first | apply Kd.R_alloc | apply Kd.R_drewN | apply Kd.R_drew)); exact Kd.R_mono HO759.out (fun _ hk => ⟨hk.1.1, ⟨hk.1.2, hk.2⟩⟩)), (by (with_reducible repeat (first | apply Kd.R_alloc | apply Kd.R_drewN | apply Kd.R_drew)); exact Kd.R_mono HO772.out (fun _ hk => ⟨hk.1.1, ⟨hk.1.2, hk.2⟩⟩)), (by (with_reducible repeat (first | apply Kd.R_alloc | apply Kd.R_drewN | apply Kd.R_drew)); exact Kd.R_mono HO779.out (fun _ hk => ⟨hk.1.1, ⟨hk.1.2, hk.2⟩⟩)), (by (with_reducible repeat (first | apply Kd.R_alloc | apply Kd.R_drewN | apply Kd.R_drew)); exact Kd.R_mono HO793.out (fun _ hk => ⟨hk.1.1.2, ⟨hk.1.2, hk.2⟩⟩)), (by (with_reducible repeat (first | apply bn | apply bd | apply ba)); exact BK752.out), (by (with_reducible repeat (first | apply bn | apply bd | apply ba)); exact BK753.out), (by (with_reducible repeat (first | apply bn | apply bd | apply ba)); exact BK774.out), (by (with_reducible repeat (first | apply bn | apply bd | apply ba)); exact BK780.out), (by (with_reducible repeat (first | apply bn | apply bd | apply ba)); exact BK795.out), GW795.out, GE795.out, NB752_795.out, NB795_752.out, NB753_795.out, NB795_753.out, NB774_795.out, NB795_774.out, NB780_795.out, NB795_780.out, (by repeat (first | (with_reducible first | exact HB.out | apply wa | apply wn | apply wd | refine ws ‹_› ?_) | exact HB.out))⟩)
    ·skip
     refine box_step ?hg (N := 11) ?hd (cs := #[.int .i64 0, .int .i64 0, .slice none 0 0]) (t := 25) ?hr ?_; (case hd => rfl); (case hg => rfl); (case hr => first | (go_simp; done) | (go_simp; rfl))
     intro gb795 hg w46 hbox hb
     replace HO759 := az (Kd.R_below (by (with_reducible repeat (first | apply Kd.R_alloc | apply Kd.R_drewN | apply Kd.R_drew)); exact HO759.out) hb)
     replace HO772 := az (Kd.R_below (by (with_reducible repeat (first | apply Kd.R_alloc | apply Kd.R_drewN | apply Kd.R_drew)); exact HO772.out) hb)
     replace HO779 := az (Kd.R_below (by (with_reducible repeat (first | apply Kd.R_alloc | apply Kd.R_drewN | apply Kd.R_drew)); exact HO779.out) hb)
     have BK795 := az (hbox)
     have GW795 := az ((by rw [hg]; exact (below_size (by repeat (first | (with_reducible first | exact HB.out | apply wa | apply wn | apply wd | refine ws ‹_› ?_) | exact HB.out))) : w.heap.size ≤ gb795))
     have GE795 := GW795
     replace HB := az (below_step (by repeat (first | (with_reducible first | exact HB.out | apply wa | apply wn | apply wd | refine ws ‹_› ?_) | exact HB.out)) hb)
     obtain ⟨NB752_795, NB795_752⟩ := nb BK752 hg (fun h => by (with_reducible repeat (first | apply bn | apply bd | apply ba)); exact h)
     replace BK752 := bb BK752 (fun h => by (with_reducible repeat (first | apply bn | apply bd | apply ba)); exact h) hb
     obtain ⟨NB753_795, NB795_753⟩ := nb BK753 hg (fun h => by (with_reducible repeat (first | apply bn | apply bd | apply ba)); exact h)
     replace BK753 := bb BK753 (fun h => by (with_reducible repeat (first | apply bn | apply bd | apply ba)); exact h) hb
     obtain ⟨NB774_795, NB795_774⟩ := nb BK774 hg (fun h => by (with_reducible repeat (first | apply bn | apply bd | apply ba)); exact h)
     replace BK774 := bb BK774 (fun h => by (with_reducible repeat (first | apply bn | apply bd | apply ba)); exact h) hb
     obtain ⟨NB780_795, NB795_780⟩ := nb BK780 hg (fun h => by (with_reducible repeat (first | apply bn | apply bd | apply ba)); exact h)
     replace BK780 := bb BK780 (fun h => by (with_reducible repeat (first | apply bn | apply bd | apply ba)); exact h) hb
     clear hb hbox hg
     refine hK.out _ _ ⟨bt BK780 rfl, bt BK780 rfl, bt BK780 rfl, bt BK753 rfl, bt BK753 rfl, bt BK753 rfl, bt BK753 rfl, bt BK753 rfl, bt BK753 rfl, bt BK753 rfl, bt BK753 rfl⟩ (fun hHeld => ?_)
     clear hK K
     refine norm_ (a' := ?_) ?_ ?_
     rotate_left
     ·show Act.put _ (some 11) _ = _
      simp only [Act.put, List.setIfInBounds_toArray, List.set_cons_zero, List.set_cons_succ, i64_w, i32_w]
      rfl
     refine one_ (i := 4) (N := some 39) #[true, true, true, true, true, false, false, false, true, false, false] rfl rfl (one_of HT_.out (by kernel_rfl)) (by decide) (fun K hK => ?_)
     refine goes_ Try.func42 (by kernel_rfl) rfl #[.agg #[.int .i64 t775, .int .i64 t776, .slice Ao42 t777.length co42], .agg #[.int .i64 t781, .int .i64 t782, .int .i64 t783, .int .i64 t784, .int .i64 t785, .int .i64 t786, .int .i64 t787, .int .i64 t788], .int .i64 a2] (by rfl) rfl rfl (by (try simp only [List.map_toArray, List.map_cons, List.map_nil]); first | done | rfl | (simp only [List.length_drop, List.length_take]; rfl)) ?_
     with_reducible refine (impl_RecDo.calls k t775 t776 _ _ t777 t781 t782 t783 t784 t785 t786 t787 t788 a2 t789 t790 t791 t794 _ ?side1 ?side2 A16.out).mono ?_
     (case side1 => repeat (first | exact (Kd.R_reads' HO779.out).2.2 | (with_reducible refine Kd.C_alloc ?_ _) | (with_reducible refine Kd.C_drewN ?_ _) | (with_reducible refine Kd.C_drew ?_)))
     (case side2 => exact (Kd.R_reads' HO779.out).2.1)
     rintro e w47 ⟨v792, rfl, ho0, hb⟩
     refine ⟨_, rfl, ?_⟩
     have HO793 := az (Kd.R_lower (Kd.R_new' (Kd.R_new' (Kd.R_new' ho0 (Kd.R_lt (by (with_reducible repeat (first | apply Kd.R_alloc | apply Kd.R_drewN | apply Kd.R_drew)); exact HO759.out))) (Kd.R_lt (by (with_reducible repeat (first | apply Kd.R_alloc | apply Kd.R_drewN | apply Kd.R_drew)); exact HO772.out))) (Kd.R_lt (by (with_reducible repeat (first | apply Kd.R_alloc | apply Kd.R_drewN | apply Kd.R_drew)); exact HO779.out))) (below_size (by repeat (first | (with_reducible first | exact HB.out | apply wa | apply wn | apply wd | refine ws ‹_› ?_) | exact HB.out))))
     replace HO759 := az (Kd.R_elder' (by (with_reducible repeat (first | apply Kd.R_alloc | apply Kd.R_drewN | apply Kd.R_drew)); exact HO759.out) (Kd.R_base ho0) hb)
     replace HO772 := az (Kd.R_elder' (by (with_reducible repeat (first | apply Kd.R_alloc | apply Kd.R_drewN | apply Kd.R_drew)); exact HO772.out) (Kd.R_base ho0) hb)
     replace HO779 := az (Kd.R_elder' (by (with_reducible repeat (first | apply Kd.R_alloc | apply Kd.R_drewN | apply Kd.R_drew)); exact HO779.out) (Kd.R_base ho0) hb)
     replace BK752 := bb BK752 (fun h => by (with_reducible repeat (first | apply bn | apply bd | apply ba)); exact h) hb
     replace BK753 := bb BK753 (fun h => by (with_reducible repeat (first | apply bn | apply bd | apply ba)); exact h) hb
     replace BK774 := bb BK774 (fun h => by (with_reducible repeat (first | apply bn | apply bd | apply ba)); exact h) hb
     replace BK780 := bb BK780 (fun h => by (with_reducible repeat (first | apply bn | apply bd | apply ba)); exact h) hb
     replace BK795 := bb BK795 (fun h => by (with_reducible repeat (first | apply bn | apply bd | apply ba)); exact h) hb
     replace HB := az (below_step (by repeat (first | (with_reducible first | exact HB.out | apply wa | apply wn | apply wd | refine ws ‹_› ?_) | exact HB.out)) hb)
     (try clear hb);(try clear hb2);(try clear hk);(try clear hi);(try clear ho0)
     refine hK.out _ _ ⟨bt BK780 rfl, bt BK780 rfl, bt BK780 rfl, bt BK753 rfl, bt BK753 rfl, bt BK753 rfl, bt BK753 rfl, bt BK753 rfl, bt BK753 rfl, bt BK753 rfl, bt BK753 rfl⟩ (fun hHeld => ?_)
     clear hK K
     refine norm_ (a' := ?_) ?_ ?_
     rotate_left
     ·show Act.put _ (some 39) _ = _
      simp only [Act.put, List.setIfInBounds_toArray, List.set_cons_zero, List.set_cons_succ, i64_w, i32_w]
      rfl
     refine pure_ (i := 5) (N := some 34) (v := ?_) (a' := ?_) #[true, true, true, true, true, true, false, false, true, false, false] rfl rfl (any_of HT_.out (by kernel_rfl)) (fun _ _ _ h => h) (Or.inl ⟨by rfl, ?_⟩) ?_ ?_
     rotate_left
     ·intro w'
      go_simp
      with_reducible rfl
     rotate_left
     ·simp only [Act.put, List.setIfInBounds_toArray, List.set_cons_zero, List.set_cons_succ, i64_w, i32_w]
      rfl
     refine pure_ (i := 6) (N := some 40) (v := ?_) (a' := ?_) #[true, true, true, true, true, true, true, false, true, false, false] rfl rfl (any_of HT_.out (by kernel_rfl)) (fun _ _ _ h => h) (Or.inl ⟨by rfl, ?_⟩) ?_ ?_
     rotate_left
     ·intro w'
      go_simp
      with_reducible rfl
     rotate_left
     ·simp only [Act.put, List.setIfInBounds_toArray, List.set_cons_zero, List.set_cons_succ, i64_w, i32_w]
      rfl
     refine pure_ (i := 7) (N := some 41) (v := ?_) (a' := ?_) #[true, true, true, true, true, true, true, true, true, false, false] rfl rfl (any_of HT_.out (by kernel_rfl)) (fun _ _ _ h => h) (Or.inl ⟨by rfl, ?_⟩) ?_ ?_
     rotate_left
     ·intro w'
      go_simp
      with_reducible rfl
     rotate_left
     ·simp only [Act.put, List.setIfInBounds_toArray, List.set_cons_zero, List.set_cons_succ, i64_w, i32_w]
      rfl
     exact norm_ (by simp only [putAll, Act.put, List.setIfInBounds_toArray, List.set_cons_zero, List.set_cons_succ]) (hCont (v792, gb795) _ ⟨hHeld, (by (with_reducible repeat (first | apply Kd.R_alloc | apply Kd.R_drewN | apply Kd.R_drew)); exact Kd.R_mono HO759.out (fun _ hk => ⟨hk.1.1, ⟨hk.1.2, hk.2⟩⟩)), (by (with_reducible repeat (first | apply Kd.R_alloc | apply Kd.R_drewN | apply Kd.R_drew)); exact Kd.R_mono HO772.out (fun _ hk => ⟨hk.1.1, ⟨hk.1.2, hk.2⟩⟩)), (by (with_reducible repeat (first | apply Kd.R_alloc | apply Kd.R_drewN | apply Kd.R_drew)); exact Kd.R_mono HO779.out (fun _ hk => ⟨hk.1.1, ⟨hk.1.2, hk.2⟩⟩)), (by (with_reducible repeat (first | apply Kd.R_alloc | apply Kd.R_drewN | apply Kd.R_drew)); exact Kd.R_mono HO793.out (fun _ hk => ⟨hk.1.1.2, ⟨hk.1.2, hk.2⟩⟩)), (by (with_reducible repeat (first | apply bn | apply bd | apply ba)); exact BK752.out), (by (with_reducible repeat (first | apply bn | apply bd | apply ba)); exact BK753.out), (by (with_reducible repeat (first | apply bn | apply bd | apply ba)); exact BK774.out), (by (with_reducible repeat (first | apply bn | apply bd | apply ba)); exact BK780.out), (by (with_reducible repeat (first | apply bn | apply bd | apply ba)); exact BK795.out), GW795.out, GE795.out, NB752_795.out, NB795_752.out, NB753_795.out, NB795_753.out, NB774_795.out, NB795_774.out, NB780_795.out, NB795_780.out, (by repeat (first | (with_reducible first | exact HB.out | apply wa | apply wn | apply wd | refine ws ‹_› ?_) | exact HB.out))⟩)
   ·skip
    refine box_step ?hg (N := 11) ?hd (cs := #[.int .i64 0, .int .i64 0, .slice none 0 0]) (t := 25) ?hr ?_; (case hd => rfl); (case hg => rfl); (case hr => first | (go_simp; done) | (go_simp; rfl))
    intro gb795 hg w45 hbox hb
    replace HO759 := az (Kd.R_below (by (with_reducible repeat (first | apply Kd.R_alloc | apply Kd.R_drewN | apply Kd.R_drew)); exact HO759.out) hb)
    replace HO772 := az (Kd.R_below (by (with_reducible repeat (first | apply Kd.R_alloc | apply Kd.R_drewN | apply Kd.R_drew)); exact HO772.out) hb)
    replace HO779 := az (Kd.R_below (by (with_reducible repeat (first | apply Kd.R_alloc | apply Kd.R_drewN | apply Kd.R_drew)); exact HO779.out) hb)
    have BK795 := az (hbox)
    have GW795 := az ((by rw [hg]; exact (below_size (by repeat (first | (with_reducible first | exact HB.out | apply wa | apply wn | apply wd | refine ws ‹_› ?_) | exact HB.out))) : w.heap.size ≤ gb795))
    have GE795 := GW795
    replace HB := az (below_step (by repeat (first | (with_reducible first | exact HB.out | apply wa | apply wn | apply wd | refine ws ‹_› ?_) | exact HB.out)) hb)
    obtain ⟨NB752_795, NB795_752⟩ := nb BK752 hg (fun h => by (with_reducible repeat (first | apply bn | apply bd | apply ba)); exact h)
    replace BK752 := bb BK752 (fun h => by (with_reducible repeat (first | apply bn | apply bd | apply ba)); exact h) hb
    obtain ⟨NB753_795, NB795_753⟩ := nb BK753 hg (fun h => by (with_reducible repeat (first | apply bn | apply bd | apply ba)); exact h)
    replace BK753 := bb BK753 (fun h => by (with_reducible repeat (first | apply bn | apply bd | apply ba)); exact h) hb
    obtain ⟨NB774_795, NB795_774⟩ := nb BK774 hg (fun h => by (with_reducible repeat (first | apply bn | apply bd | apply ba)); exact h)
    replace BK774 := bb BK774 (fun h => by (with_reducible repeat (first | apply bn | apply bd | apply ba)); exact h) hb
    obtain ⟨NB780_795, NB795_780⟩ := nb BK780 hg (fun h => by (with_reducible repeat (first | apply bn | apply bd | apply ba)); exact h)
    replace BK780 := bb BK780 (fun h => by (with_reducible repeat (first | apply bn | apply bd | apply ba)); exact h) hb
    clear hb hbox hg
    refine hK.out _ _ ⟨bt BK780 rfl, bt BK780 rfl, bt BK780 rfl, bt BK753 rfl, bt BK753 rfl, bt BK753 rfl, bt BK753 rfl, bt BK753 rfl, bt BK753 rfl, bt BK753 rfl, bt BK753 rfl⟩ (fun hHeld => ?_)
    clear hK K
    refine norm_ (a' := ?_) ?_ ?_
    rotate_left
    ·show Act.put _ (some 11) _ = _
     simp only [Act.put, List.setIfInBounds_toArray, List.set_cons_zero, List.set_cons_succ, i64_w, i32_w]
     rfl
    refine one_ (i := 2) (N := some 37) #[true, true, true, true, false, false, false, false, true, false, false] rfl rfl (one_of HT_.out (by kernel_rfl)) (by decide) (fun K hK => ?_)
    refine goes_ Try.func52 (by kernel_rfl) rfl #[.agg #[.int .i64 a1_0, .int .i64 a1_1, .int .i64 a1_2, .int .i64 a1_3, .int .i64 a1_4, .int .i64 a1_5, .int .i64 a1_6, .int .i64 a1_7]] (by rfl) rfl rfl (by (try simp only [List.map_toArray, List.map_cons, List.map_nil]); first | done | rfl | (simp only [List.length_drop, List.length_take]; rfl)) ?_
    with_reducible refine (laws_toRec.calls a1_0 a1_1 a1_2 a1_3 a1_4 a1_5 a1_6 a1_7 t781 t782 t783 t784 t785 t786 t787 t788 _ A15.out).mono ?_
    rintro e w46 ⟨rfl, hb⟩
    refine ⟨_, rfl, ?_⟩
    replace HO759 := az (Kd.R_below (by (with_reducible repeat (first | apply Kd.R_alloc | apply Kd.R_drewN | apply Kd.R_drew)); exact HO759.out) hb)
    replace HO772 := az (Kd.R_below (by (with_reducible repeat (first | apply Kd.R_alloc | apply Kd.R_drewN | apply Kd.R_drew)); exact HO772.out) hb)
    replace HO779 := az (Kd.R_below (by (with_reducible repeat (first | apply Kd.R_alloc | apply Kd.R_drewN | apply Kd.R_drew)); exact HO779.out) hb)
    replace BK752 := bb BK752 (fun h => by (with_reducible repeat (first | apply bn | apply bd | apply ba)); exact h) hb
    replace BK753 := bb BK753 (fun h => by (with_reducible repeat (first | apply bn | apply bd | apply ba)); exact h) hb
    replace BK774 := bb BK774 (fun h => by (with_reducible repeat (first | apply bn | apply bd | apply ba)); exact h) hb
    replace BK780 := bb BK780 (fun h => by (with_reducible repeat (first | apply bn | apply bd | apply ba)); exact h) hb
    replace BK795 := bb BK795 (fun h => by (with_reducible repeat (first | apply bn | apply bd | apply ba)); exact h) hb
    replace HB := az (below_step (by repeat (first | (with_reducible first | exact HB.out | apply wa | apply wn | apply wd | refine ws ‹_› ?_) | exact HB.out)) hb)
    (try clear hb);(try clear hb2);(try clear hk);(try clear hi)
    refine hK.out _ _ ⟨bt BK780 rfl, bt BK780 rfl, bt BK780 rfl, bt BK753 rfl, bt BK753 rfl, bt BK753 rfl, bt BK753 rfl, bt BK753 rfl, bt BK753 rfl, bt BK753 rfl, bt BK753 rfl⟩ (fun hHeld => ?_)
    clear hK K
    refine norm_ (a' := ?_) ?_ ?_
    rotate_left
    ·show Act.put _ (some 37) _ = _
     simp only [Act.put, List.setIfInBounds_toArray, List.set_cons_zero, List.set_cons_succ, i64_w, i32_w]
     rfl
    refine one_ (i := 4) (N := some 39) #[true, true, true, true, true, false, false, false, true, false, false] rfl rfl (one_of HT_.out (by kernel_rfl)) (by decide) (fun K hK => ?_)
    refine goes_ Try.func42 (by kernel_rfl) rfl #[.agg #[.int .i64 t775, .int .i64 t776, .slice Ao42 t777.length co42], .agg #[.int .i64 t781, .int .i64 t782, .int .i64 t783, .int .i64 t784, .int .i64 t785, .int .i64 t786, .int .i64 t787, .int .i64 t788], .int .i64 a2] (by rfl) rfl rfl (by (try simp only [List.map_toArray, List.map_cons, List.map_nil]); first | done | rfl | (simp only [List.length_drop, List.length_take]; rfl)) ?_
    with_reducible refine (impl_RecDo.calls k t775 t776 _ _ t777 t781 t782 t783 t784 t785 t786 t787 t788 a2 t789 t790 t791 t794 _ ?side1 ?side2 A16.out).mono ?_
    (case side1 => repeat (first | exact (Kd.R_reads' HO779.out).2.2 | (with_reducible refine Kd.C_alloc ?_ _) | (with_reducible refine Kd.C_drewN ?_ _) | (with_reducible refine Kd.C_drew ?_)))
    (case side2 => exact (Kd.R_reads' HO779.out).2.1)
    rintro e w47 ⟨v792, rfl, ho0, hb⟩
    refine ⟨_, rfl, ?_⟩
    have HO793 := az (Kd.R_lower (Kd.R_new' (Kd.R_new' (Kd.R_new' ho0 (Kd.R_lt (by (with_reducible repeat (first | apply Kd.R_alloc | apply Kd.R_drewN | apply Kd.R_drew)); exact HO759.out))) (Kd.R_lt (by (with_reducible repeat (first | apply Kd.R_alloc | apply Kd.R_drewN | apply Kd.R_drew)); exact HO772.out))) (Kd.R_lt (by (with_reducible repeat (first | apply Kd.R_alloc | apply Kd.R_drewN | apply Kd.R_drew)); exact HO779.out))) (below_size (by repeat (first | (with_reducible first | exact HB.out | apply wa | apply wn | apply wd | refine ws ‹_› ?_) | exact HB.out))))
    replace HO759 := az (Kd.R_elder' (by (with_reducible repeat (first | apply Kd.R_alloc | apply Kd.R_drewN | apply Kd.R_drew)); exact HO759.out) (Kd.R_base ho0) hb)
    replace HO772 := az (Kd.R_elder' (by (with_reducible repeat (first | apply Kd.R_alloc | apply Kd.R_drewN | apply Kd.R_drew)); exact HO772.out) (Kd.R_base ho0) hb)
    replace HO779 := az (Kd.R_elder' (by (with_reducible repeat (first | apply Kd.R_alloc | apply Kd.R_drewN | apply Kd.R_drew)); exact HO779.out) (Kd.R_base ho0) hb)
    replace BK752 := bb BK752 (fun h => by (with_reducible repeat (first | apply bn | apply bd | apply ba)); exact h) hb
    replace BK753 := bb BK753 (fun h => by (with_reducible repeat (first | apply bn | apply bd | apply ba)); exact h) hb
    replace BK774 := bb BK774 (fun h => by (with_reducible repeat (first | apply bn | apply bd | apply ba)); exact h) hb
    replace BK780 := bb BK780 (fun h => by (with_reducible repeat (first | apply bn | apply bd | apply ba)); exact h) hb
    replace BK795 := bb BK795 (fun h => by (with_reducible repeat (first | apply bn | apply bd | apply ba)); exact h) hb
    replace HB := az (below_step (by repeat (first | (with_reducible first | exact HB.out | apply wa | apply wn | apply wd | refine ws ‹_› ?_) | exact HB.out)) hb)
    (try clear hb);(try clear hb2);(try clear hk);(try clear hi);(try clear ho0)
    refine hK.out _ _ ⟨bt BK780 rfl, bt BK780 rfl, bt BK780 rfl, bt BK753 rfl, bt BK753 rfl, bt BK753 rfl, bt BK753 rfl, bt BK753 rfl, bt BK753 rfl, bt BK753 rfl, bt BK753 rfl⟩ (fun hHeld => ?_)
    clear hK K
    refine norm_ (a' := ?_) ?_ ?_
    rotate_left
    ·show Act.put _ (some 39) _ = _
     simp only [Act.put, List.setIfInBounds_toArray, List.set_cons_zero, List.set_cons_succ, i64_w, i32_w]
     rfl
    refine pure_ (i := 5) (N := some 34) (v := ?_) (a' := ?_) #[true, true, true, true, true, true, false, false, true, false, false] rfl rfl (any_of HT_.out (by kernel_rfl)) (fun _ _ _ h => h) (Or.inl ⟨by rfl, ?_⟩) ?_ ?_
    rotate_left
    ·intro w'
     go_simp
     with_reducible rfl
    rotate_left
    ·simp only [Act.put, List.setIfInBounds_toArray, List.set_cons_zero, List.set_cons_succ, i64_w, i32_w]
     rfl
    refine pure_ (i := 6) (N := some 40) (v := ?_) (a' := ?_) #[true, true, true, true, true, true, true, false, true, false, false] rfl rfl (any_of HT_.out (by kernel_rfl)) (fun _ _ _ h => h) (Or.inl ⟨by rfl, ?_⟩) ?_ ?_
    rotate_left
    ·intro w'
     go_simp
     with_reducible rfl
    rotate_left
    ·simp only [Act.put, List.setIfInBounds_toArray, List.set_cons_zero, List.set_cons_succ, i64_w, i32_w]
     rfl
    refine pure_ (i := 7) (N := some 41) (v := ?_) (a' := ?_) #[true, true, true, true, true, true, true, true, true, false, false] rfl rfl (any_of HT_.out (by kernel_rfl)) (fun _ _ _ h => h) (Or.inl ⟨by rfl, ?_⟩) ?_ ?_
    rotate_left
    ·intro w'
     go_simp
     with_reducible rfl
    rotate_left
    ·simp only [Act.put, List.setIfInBounds_toArray, List.set_cons_zero, List.set_cons_succ, i64_w, i32_w]
     rfl
    exact norm_ (by simp only [putAll, Act.put, List.setIfInBounds_toArray, List.set_cons_zero, List.set_cons_succ]) (hCont (v792, gb795) _ ⟨hHeld, (by (with_reducible repeat (first | apply Kd.R_alloc | apply Kd.R_drewN | apply Kd.R_drew)); exact Kd.R_mono HO759.out (fun _ hk => ⟨hk.1.1, ⟨hk.1.2, hk.2⟩⟩)), (by (with_reducible repeat (first | apply Kd.R_alloc | apply Kd.R_drewN | apply Kd.R_drew)); exact Kd.R_mono HO772.out (fun _ hk => ⟨hk.1.1, ⟨hk.1.2, hk.2⟩⟩)), (by (with_reducible repeat (first | apply Kd.R_alloc | apply Kd.R_drewN | apply Kd.R_drew)); exact Kd.R_mono HO779.out (fun _ hk => ⟨hk.1.1, ⟨hk.1.2, hk.2⟩⟩)), (by (with_reducible repeat (first | apply Kd.R_alloc | apply Kd.R_drewN | apply Kd.R_drew)); exact Kd.R_mono HO793.out (fun _ hk => ⟨hk.1.1.2, ⟨hk.1.2, hk.2⟩⟩)), (by (with_reducible repeat (first | apply bn | apply bd | apply ba)); exact BK752.out), (by (with_reducible repeat (first | apply bn | apply bd | apply ba)); exact BK753.out), (by (with_reducible repeat (first | apply bn | apply bd | apply ba)); exact BK774.out), (by (with_reducible repeat (first | apply bn | apply bd | apply ba)); exact BK780.out), (by (with_reducible repeat (first | apply bn | apply bd | apply ba)); exact BK795.out), GW795.out, GE795.out, NB752_795.out, NB795_752.out, NB753_795.out, NB795_753.out, NB774_795.out, NB795_774.out, NB780_795.out, NB795_780.out, (by repeat (first | (with_reducible first | exact HB.out | apply wa | apply wn | apply wd | refine ws ‹_› ?_) | exact HB.out))⟩)
  rintro ⟨v792, gb795⟩ w48 ⟨hS_, h0_, h1_, h2_, h3_, h4_, h5_, h6_, h7_, h8_, h9_, h10_, h11_, h12_, h13_, h14_, h15_, h16_, h17_, h18_, h19_⟩
  replace HO759 : Aside0 (Kd.R (Kd.int .i64) 3 w48 w.heap.size (fun k_ => some k_ ≠ (.slice Ao32 t770.length co32 : Value).ownBlock ∧ some k_ ≠ (.slice Ao42 t777.length co42 : Value).ownBlock ∧ some k_ ≠ (v792 : Value).ownBlock) v758 t757) := ⟨h0_⟩
  replace HO772 : Aside0 (Kd.R (Kd.int .i64) 3 w48 w.heap.size (fun k_ => some k_ ≠ (v758 : Value).ownBlock ∧ some k_ ≠ (.slice Ao42 t777.length co42 : Value).ownBlock ∧ some k_ ≠ (v792 : Value).ownBlock) (.slice Ao32 t770.length co32) t770) := ⟨h1_⟩
  replace HO779 : Aside0 (Kd.R (Kd.int .i64) 3 w48 w.heap.size (fun k_ => some k_ ≠ (v758 : Value).ownBlock ∧ some k_ ≠ (.slice Ao32 t770.length co32 : Value).ownBlock ∧ some k_ ≠ (v792 : Value).ownBlock) (.slice Ao42 t777.length co42) t777) := ⟨h2_⟩
  have HO793 : Aside0 (Kd.R (Kd.int .i64) 3 w48 w.heap.size (fun k_ => some k_ ≠ (v758 : Value).ownBlock ∧ some k_ ≠ (.slice Ao32 t770.length co32 : Value).ownBlock ∧ some k_ ≠ (.slice Ao42 t777.length co42 : Value).ownBlock) v792 t791) := ⟨h3_⟩
  replace BK752 : Aside0 (w48.heap[gb752]? = some (.cells #[.int .i64 a0_0, .int .i64 a0_1, .slice A0_2 l0_2.length c0_2] 57 (0, 0))) := ⟨h4_⟩
  replace BK753 : Aside0 (w48.heap[gb753]? = some (.cells #[.int .i64 a1_0, .int .i64 a1_1, .int .i64 a1_2, .int .i64 a1_3, .int .i64 a1_4, .int .i64 a1_5, .int .i64 a1_6, .int .i64 a1_7] 58 (0, 0))) := ⟨h5_⟩
  replace BK774 : Aside0 (w48.heap[gb774]? = some (.cells #[.int .i64 t768, .int .i64 t769, .slice Ao32 t770.length co32] 25 (0, 0))) := ⟨h6_⟩
  replace BK780 : Aside0 (w48.heap[gb780]? = some (.cells #[.int .i64 t775, .int .i64 t776, .slice Ao42 t777.length co42] 25 (0, 0))) := ⟨h7_⟩
  have BK795 : Aside0 (w48.heap[gb795]? = some (.cells #[.int .i64 0, .int .i64 0, .slice none 0 0] 25 (0, 0))) := ⟨h8_⟩
  have GW795 : Aside0 (w.heap.size ≤ gb795) := ⟨h9_⟩
  have GE795 : Aside0 (w.heap.size ≤ gb795) := ⟨h10_⟩
  have NB752_795 : Aside0 (gb752 ≠ gb795) := ⟨h11_⟩
  have NB795_752 : Aside0 (gb795 ≠ gb752) := ⟨h12_⟩
  have NB753_795 : Aside0 (gb753 ≠ gb795) := ⟨h13_⟩
  have NB795_753 : Aside0 (gb795 ≠ gb753) := ⟨h14_⟩
  have NB774_795 : Aside0 (gb774 ≠ gb795) := ⟨h15_⟩
  have NB795_774 : Aside0 (gb795 ≠ gb774) := ⟨h16_⟩
  have NB780_795 : Aside0 (gb780 ≠ gb795) := ⟨h17_⟩
  have NB795_780 : Aside0 (gb795 ≠ gb780) := ⟨h18_⟩
  replace HB : Aside0 (Below w.heap.size w w48) := ⟨h19_⟩
  clear h0_ h1_ h2_ h3_ h4_ h5_ h6_ h7_ h8_ h9_ h10_ h11_ h12_ h13_ h14_ h15_ h16_ h17_ h18_ h19_
  have hHeld : w48.cell? ⟨gb780, 0, none⟩ = some (.int .i64 t775) ∧ w48.cell? ⟨gb780, 1, none⟩ = some (.int .i64 t776) ∧ w48.cell? ⟨gb780, 2, none⟩ = some (.slice Ao42 t777.length co42) ∧ w48.cell? ⟨gb753, 0, none⟩ = some (.int .i64 a1_0) ∧ w48.cell? ⟨gb753, 1, none⟩ = some (.int .i64 a1_1) ∧ w48.cell? ⟨gb753, 2, none⟩ = some (.int .i64 a1_2) ∧ w48.cell? ⟨gb753, 3, none⟩ = some (.int .i64 a1_3) ∧ w48.cell? ⟨gb753, 4, none⟩ = some (.int .i64 a1_4) ∧ w48.cell? ⟨gb753, 5, none⟩ = some (.int .i64 a1_5) ∧ w48.cell? ⟨gb753, 6, none⟩ = some (.int .i64 a1_6) ∧ w48.cell? ⟨gb753, 7, none⟩ = some (.int .i64 a1_7) := hS_
  obtain ⟨Ao51, co51, eo51⟩ := Kd.R_slice HO793.out
  (first | subst eo51 | (injection eo51 with f1_ f2_ f3_; have f4_ := f1_.symm; have f5_ := f3_.symm; clear f1_ f2_ f3_; subst f4_; subst f5_))
  refine norm_ (a' := ?_) ?_ ?_
  rotate_left
  ·simp only [putAll, Act.put, List.setIfInBounds_toArray, List.set_cons_zero, List.set_cons_succ]
   rfl
  refine one_ (i := 9) (N := none) #[true, true, true, true, true, true, true, true, true, true, false] rfl rfl (one_of HT_.out (by kernel_rfl)) (by decide) (fun K hK => ?_)
  have hs49 : w48.cell? ⟨gb795, 0, none⟩ = some (.int .i64 0) := bt BK795 rfl
  have hfs49 := blk_frozen BK795.out 0
  have hns49_0 := NB752_795.out
  have hns49_1 := NB753_795.out
  have hns49_2 := NB774_795.out
  have hns49_3 := NB780_795.out
  have hms49_0 := NB795_752.out
  have hms49_1 := NB795_753.out
  have hms49_2 := NB795_774.out
  have hms49_3 := NB795_780.out
  have hs50 : w48.cell? ⟨gb795, 1, none⟩ = some (.int .i64 0) := bt BK795 rfl
  have hfs50 := blk_frozen BK795.out 1
  have hns50_0 := NB752_795.out
  have hns50_1 := NB753_795.out
  have hns50_2 := NB774_795.out
  have hns50_3 := NB780_795.out
  have hms50_0 := NB795_752.out
  have hms50_1 := NB795_753.out
  have hms50_2 := NB795_774.out
  have hms50_3 := NB795_780.out
  have hs52 : w48.cell? ⟨gb795, 2, none⟩ = some (.slice none 0 0) := bt BK795 rfl
  have hfs52 := blk_frozen BK795.out 2
  have hns52_0 := NB752_795.out
  have hns52_1 := NB753_795.out
  have hns52_2 := NB774_795.out
  have hns52_3 := NB780_795.out
  have hms52_0 := NB795_752.out
  have hms52_1 := NB795_753.out
  have hms52_2 := NB795_774.out
  have hms52_3 := NB795_780.out
  refine skip_ (w1 := ?_) (by rfl) rfl ?_ ?_
  rotate_left
  ·go_simp
   rfl
  refine hK.out _ _ ⟨((cell_far (p := ⟨gb795, _, none⟩) NB780_795.out _).trans (((cell_far (p := ⟨gb795, _, none⟩) NB780_795.out _).trans (((cell_far (p := ⟨gb795, _, none⟩) NB780_795.out _).trans (hHeld.1)))))), ((cell_far (p := ⟨gb795, _, none⟩) NB780_795.out _).trans (((cell_far (p := ⟨gb795, _, none⟩) NB780_795.out _).trans (((cell_far (p := ⟨gb795, _, none⟩) NB780_795.out _).trans (hHeld.2.1)))))), ((cell_far (p := ⟨gb795, _, none⟩) NB780_795.out _).trans (((cell_far (p := ⟨gb795, _, none⟩) NB780_795.out _).trans (((cell_far (p := ⟨gb795, _, none⟩) NB780_795.out _).trans (hHeld.2.2.1)))))), ((cell_far (p := ⟨gb795, _, none⟩) NB753_795.out _).trans (((cell_far (p := ⟨gb795, _, none⟩) NB753_795.out _).trans (((cell_far (p := ⟨gb795, _, none⟩) NB753_795.out _).trans (hHeld.2.2.2.1)))))), ((cell_far (p := ⟨gb795, _, none⟩) NB753_795.out _).trans (((cell_far (p := ⟨gb795, _, none⟩) NB753_795.out _).trans (((cell_far (p := ⟨gb795, _, none⟩) NB753_795.out _).trans (hHeld.2.2.2.2.1)))))), ((cell_far (p := ⟨gb795, _, none⟩) NB753_795.out _).trans (((cell_far (p := ⟨gb795, _, none⟩) NB753_795.out _).trans (((cell_far (p := ⟨gb795, _, none⟩) NB753_795.out _).trans (hHeld.2.2.2.2.2.1)))))), ((cell_far (p := ⟨gb795, _, none⟩) NB753_795.out _).trans (((cell_far (p := ⟨gb795, _, none⟩) NB753_795.out _).trans (((cell_far (p := ⟨gb795, _, none⟩) NB753_795.out _).trans (hHeld.2.2.2.2.2.2.1)))))), ((cell_far (p := ⟨gb795, _, none⟩) NB753_795.out _).trans (((cell_far (p := ⟨gb795, _, none⟩) NB753_795.out _).trans (((cell_far (p := ⟨gb795, _, none⟩) NB753_795.out _).trans (hHeld.2.2.2.2.2.2.2.1)))))), ((cell_far (p := ⟨gb795, _, none⟩) NB753_795.out _).trans (((cell_far (p := ⟨gb795, _, none⟩) NB753_795.out _).trans (((cell_far (p := ⟨gb795, _, none⟩) NB753_795.out _).trans (hHeld.2.2.2.2.2.2.2.2.1)))))), ((cell_far (p := ⟨gb795, _, none⟩) NB753_795.out _).trans (((cell_far (p := ⟨gb795, _, none⟩) NB753_795.out _).trans (((cell_far (p := ⟨gb795, _, none⟩) NB753_795.out _).trans (hHeld.2.2.2.2.2.2.2.2.2.1)))))), ((cell_far (p := ⟨gb795, _, none⟩) NB753_795.out _).trans (((cell_far (p := ⟨gb795, _, none⟩) NB753_795.out _).trans (((cell_far (p := ⟨gb795, _, none⟩) NB753_795.out _).trans (hHeld.2.2.2.2.2.2.2.2.2.2))))))⟩ (fun hHeld => ?_)
  clear hK K
  refine pure_ (i := 10) (N := some 12) (v := ?_) (a' := ?_) #[true, true, true, true, true, true, true, true, true, true, true] rfl rfl (any_of HT_.out (by kernel_rfl)) (fun _ _ _ h => h) (Or.inl ⟨by rfl, ?_⟩) ?_ ?_
  rotate_left
  ·intro w'
   go_simp
   with_reducible rfl
  rotate_left
  ·simp only [Act.put, List.setIfInBounds_toArray, List.set_cons_zero, List.set_cons_succ, i64_w, i32_w]
   rfl
  refine done_ (done_of HT_.out (by kernel_rfl)) ?_
  go_upto_region 8 with (fail)
  go_cut [50] (fun v50 wc => ∃ (kq : Nat) (x50_16 : Bool), v50 = .bool x50_16 ∧ Aside0 (laws_FnExactRecDo.j0 kq a2 t773 t794 x50_16 a0_0 a0_1 l0_2 a1_0 a1_1 a1_2 a1_3 a1_4 a1_5 a1_6 a1_7 t768 t769 t770 t775 t776 t777 t789 t790 t791 = some r) ∧ Aside0 (kq ≤ k) ∧ Aside0 (Kd.R (Kd.int .i64) 3 wc w.heap.size (fun k_ => some k_ ≠ ((.slice Ao42 t777.length co42) : Value).ownBlock ∧ some k_ ≠ ((.slice Ao51 t791.length co51) : Value).ownBlock) (.slice Ao32 t770.length co32) t770) ∧ Aside0 (Kd.R (Kd.int .i64) 3 wc w.heap.size (fun k_ => some k_ ≠ ((.slice Ao32 t770.length co32) : Value).ownBlock ∧ some k_ ≠ ((.slice Ao51 t791.length co51) : Value).ownBlock) (.slice Ao42 t777.length co42) t777) ∧ Aside0 (Kd.R (Kd.int .i64) 3 wc w.heap.size (fun k_ => some k_ ≠ ((.slice Ao32 t770.length co32) : Value).ownBlock ∧ some k_ ≠ ((.slice Ao42 t777.length co42) : Value).ownBlock) (.slice Ao51 t791.length co51) t791) ∧ Aside0 (wc.heap[gb752]? = some (.cells #[.int .i64 a0_0, .int .i64 a0_1, (.slice A0_2 l0_2.length c0_2)] 57 (0, 0))) ∧ Aside0 (wc.heap[gb753]? = some (.cells #[.int .i64 a1_0, .int .i64 a1_1, .int .i64 a1_2, .int .i64 a1_3, .int .i64 a1_4, .int .i64 a1_5, .int .i64 a1_6, .int .i64 a1_7] 58 (0, 0))) ∧ Aside0 (wc.heap[gb774]? = some (.cells #[.int .i64 t768, .int .i64 t769, (.slice Ao32 t770.length co32)] 25 (0, 0))) ∧ Aside0 (wc.heap[gb780]? = some (.cells #[.int .i64 t775, .int .i64 t776, (.slice Ao42 t777.length co42)] 25 (0, 0))) ∧ Aside0 (wc.heap[gb795]? = some (.cells #[.int .i64 t789, .int .i64 t790, (.slice Ao51 t791.length co51)] 25 (0, 0))) ∧ Aside0 (Below w.heap.size w wc))
  case first =>
   have H := HC17.out
   clear HC17
   replace H := Option.bind_eq_some_iff.mp H
   obtain ⟨t796, A530, H⟩ := H
   replace H : (if t796 = true then (laws_FnExactRecDo.j0 k a2 t773 t794 (t794 != t773) a0_0 a0_1 l0_2 a1_0 a1_1 a1_2 a1_3 a1_4 a1_5 a1_6 a1_7 t768 t769 t770 t775 t776 t777 t789 t790 t791) else (laws_FnExactRecDo.j0 k a2 t773 t794 true a0_0 a0_1 l0_2 a1_0 a1_1 a1_2 a1_3 a1_4 a1_5 a1_6 a1_7 t768 t769 t770 t775 t776 t777 t789 t790 t791)) = some r := H
   have A53 := az A530
   clear A530
   by_cases c54 : t796 = true
   ·subst c54
    have H1 : (laws_FnExactRecDo.j0 k a2 t773 t794 (t794 != t773) a0_0 a0_1 l0_2 a1_0 a1_1 a1_2 a1_3 a1_4 a1_5 a1_6 a1_7 t768 t769 t770 t775 t776 t777 t789 t790 t791) = some r := by rw [if_pos rfl] at H; exact H
    clear H
    have H := H1
    clear H1
    have H' := az H
    clear H
    have hnb55 := NB795_752.out
    have hnc55 := NB752_795.out
    have hnb56 := NB795_753.out
    have hnc56 := NB753_795.out
    have hnb57 := NB795_774.out
    have hnc57 := NB774_795.out
    have hnb58 := NB795_780.out
    have hnc58 := NB780_795.out
    obtain ⟨hcz59_0, hcz59_1, hcz59_2⟩ := cz3 BK795
    obtain ⟨hfz59_0, hfz59_1, hfz59_2⟩ := fz3 BK795
    have hnb60 := NB774_752.out
    have hnc60 := NB752_774.out
    have hnb61 := NB774_753.out
    have hnc61 := NB753_774.out
    have hnb62 := NB774_780.out
    have hnc62 := NB780_774.out
    obtain ⟨hcz63_0, hcz63_1, hcz63_2⟩ := cz3 BK774
    obtain ⟨hfz63_0, hfz63_1, hfz63_2⟩ := fz3 BK774
    go_wp2_with (first | ((with_reducible refine gate_callee (f := 53) rfl ?_); refine goesL_ (some 44) rfl rfl Try.func53 (by kernel_rfl) rfl #[.agg #[.int .i64 t789, .int .i64 t790, .slice Ao51 t791.length co51], .agg #[.int .i64 t768, .int .i64 t769, .slice Ao32 t770.length co32]] rfl (by (try simp only [List.map_toArray, List.map_cons, List.map_nil]); first | done | rfl | (simp only [List.length_drop, List.length_take]; rfl)) ?_; (with_reducible refine (laws_eqPage.calls k t789 t790 _ _ t791 t768 t769 _ _ t770 true _ ?side1 ?side2 ?side3 ?side4 A53.out).mono ?_); (case side1 => refine (Kd.R_reads' (e := 3) (base := w.heap.size) (ok := fun k_ => (some k_ ≠ (v758 : Value).ownBlock ∧ (some k_ ≠ (.slice Ao32 t770.length co32 : Value).ownBlock ∧ some k_ ≠ (.slice Ao42 t777.length co42 : Value).ownBlock))) (n := t791.length) (c := co51) ?_).2.2; exact (by (with_reducible repeat (first | apply Kd.R_alloc | apply Kd.R_drewN | apply Kd.R_drew)); exact (fR3 HO793.out BK795.out (by decide)))); (case side2 => exact (Kd.R_reads' HO793.out).2.1); (case side3 => refine (Kd.R_reads' (e := 3) (base := w.heap.size) (ok := fun k_ => (some k_ ≠ (v758 : Value).ownBlock ∧ (some k_ ≠ (.slice Ao42 t777.length co42 : Value).ownBlock ∧ some k_ ≠ (.slice Ao51 t791.length co51 : Value).ownBlock))) (n := t770.length) (c := co32) ?_).2.2; exact (by (with_reducible repeat (first | apply Kd.R_alloc | apply Kd.R_drewN | apply Kd.R_drew)); exact (fR3 HO772.out BK795.out (by decide)))); (case side4 => exact (Kd.R_reads' HO772.out).2.1); rintro e w64 ⟨rfl, hb⟩; refine ⟨_, rfl, ?_⟩; replace HO759 := az (Kd.R_below (by (with_reducible repeat (first | apply Kd.R_alloc | apply Kd.R_drewN | apply Kd.R_drew)); exact (fR3 HO759.out BK795.out (by decide))) hb); replace HO772 := az (Kd.R_below (by (with_reducible repeat (first | apply Kd.R_alloc | apply Kd.R_drewN | apply Kd.R_drew)); exact (fR3 HO772.out BK795.out (by decide))) hb); replace HO779 := az (Kd.R_below (by (with_reducible repeat (first | apply Kd.R_alloc | apply Kd.R_drewN | apply Kd.R_drew)); exact (fR3 HO779.out BK795.out (by decide))) hb); replace HO793 := az (Kd.R_below (by (with_reducible repeat (first | apply Kd.R_alloc | apply Kd.R_drewN | apply Kd.R_drew)); exact (fR3 HO793.out BK795.out (by decide))) hb); replace BK752 := az (blk_below (g := gb752) (o := .cells #[.int .i64 a0_0, .int .i64 a0_1, .slice A0_2 l0_2.length c0_2] 57 (0, 0)) (by (repeat (first | (with_reducible first | apply bn | apply bd | apply ba) | apply bf NB752_795)); exact BK752.out) hb); replace BK753 := az (blk_below (g := gb753) (o := .cells #[.int .i64 a1_0, .int .i64 a1_1, .int .i64 a1_2, .int .i64 a1_3, .int .i64 a1_4, .int .i64 a1_5, .int .i64 a1_6, .int .i64 a1_7] 58 (0, 0)) (by (repeat (first | (with_reducible first | apply bn | apply bd | apply ba) | apply bf NB753_795)); exact BK753.out) hb); replace BK774 := az (blk_below (g := gb774) (o := .cells #[.int .i64 t768, .int .i64 t769, .slice Ao32 t770.length co32] 25 (0, 0)) (by (repeat (first | (with_reducible first | apply bn | apply bd | apply ba) | apply bf NB774_795)); exact BK774.out) hb); replace BK780 := az (blk_below (g := gb780) (o := .cells #[.int .i64 t775, .int .i64 t776, .slice Ao42 t777.length co42] 25 (0, 0)) (by (repeat (first | (with_reducible first | apply bn | apply bd | apply ba) | apply bf NB780_795)); exact BK780.out) hb); replace BK795 := az (blk_below (g := gb795) (o := .cells #[.int .i64 t789, .int .i64 t790, .slice Ao51 t791.length co51] 25 (0, 0)) (by (with_reducible repeat (first | apply bn | apply bd | apply ba)); exact p3 BK795) hb); replace HB := az (below_step (by repeat (first | (with_reducible first | exact HB.out | apply wa | apply wn | apply wd | refine ws ‹_› ?_) | exact HB.out)) hb); (try clear hb); (try clear hb2); (try clear hk); (try clear hi)))
    go_meet
    case rel => exact ⟨_, ((t794 != t773)), (by first | rfl | (simp; done) | (simp [*]; done)), H', ⟨by first | omega | exact Nat.le_refl _⟩, ⟨by (with_reducible repeat (first | apply Kd.R_alloc | apply Kd.R_drewN | apply Kd.R_drew)); exact Kd.R_mono HO772.out (fun _ hk => ⟨hk.2.1, hk.2.2⟩)⟩, ⟨by (with_reducible repeat (first | apply Kd.R_alloc | apply Kd.R_drewN | apply Kd.R_drew)); exact Kd.R_mono HO779.out (fun _ hk => ⟨hk.2.1, hk.2.2⟩)⟩, ⟨by (with_reducible repeat (first | apply Kd.R_alloc | apply Kd.R_drewN | apply Kd.R_drew)); exact Kd.R_mono HO793.out (fun _ hk => ⟨hk.2.1, hk.2.2⟩)⟩, ⟨by (with_reducible repeat (first | apply bn | apply bd | apply ba)); exact BK752.out⟩, ⟨by (with_reducible repeat (first | apply bn | apply bd | apply ba)); exact BK753.out⟩, ⟨by (with_reducible repeat (first | apply bn | apply bd | apply ba)); exact BK774.out⟩, ⟨by (with_reducible repeat (first | apply bn | apply bd | apply ba)); exact BK780.out⟩, ⟨by (with_reducible repeat (first | apply bn | apply bd | apply ba)); exact BK795.out⟩, ⟨by repeat (first | (with_reducible first | exact HB.out | apply wa | apply wn | apply wd | refine ws ‹_› ?_) | exact HB.out)⟩⟩
   ·replace c54 := Bool.eq_false_iff.mpr c54
    subst c54
    have H1 : (laws_FnExactRecDo.j0 k a2 t773 t794 true a0_0 a0_1 l0_2 a1_0 a1_1 a1_2 a1_3 a1_4 a1_5 a1_6 a1_7 t768 t769 t770 t775 t776 t777 t789 t790 t791) = some r := by rw [if_neg (show ¬ (false = true) by decide)] at H; exact H
    clear H
    have H := H1
    clear H1
    have H' := az H
    clear H
    have hnb65 := NB795_752.out
    have hnc65 := NB752_795.out
    have hnb66 := NB795_753.out
    have hnc66 := NB753_795.out
    have hnb67 := NB795_774.out
    have hnc67 := NB774_795.out
    have hnb68 := NB795_780.out
    have hnc68 := NB780_795.out
    obtain ⟨hcz69_0, hcz69_1, hcz69_2⟩ := cz3 BK795
    obtain ⟨hfz69_0, hfz69_1, hfz69_2⟩ := fz3 BK795
    have hnb70 := NB774_752.out
    have hnc70 := NB752_774.out
    have hnb71 := NB774_753.out
    have hnc71 := NB753_774.out
    have hnb72 := NB774_780.out
    have hnc72 := NB780_774.out
    obtain ⟨hcz73_0, hcz73_1, hcz73_2⟩ := cz3 BK774
    obtain ⟨hfz73_0, hfz73_1, hfz73_2⟩ := fz3 BK774
    go_wp2_with (first | ((with_reducible refine gate_callee (f := 53) rfl ?_); refine goesL_ (some 44) rfl rfl Try.func53 (by kernel_rfl) rfl #[.agg #[.int .i64 t789, .int .i64 t790, .slice Ao51 t791.length co51], .agg #[.int .i64 t768, .int .i64 t769, .slice Ao32 t770.length co32]] rfl (by (try simp only [List.map_toArray, List.map_cons, List.map_nil]); first | done | rfl | (simp only [List.length_drop, List.length_take]; rfl)) ?_; (with_reducible refine (laws_eqPage.calls k t789 t790 _ _ t791 t768 t769 _ _ t770 false _ ?side1 ?side2 ?side3 ?side4 A53.out).mono ?_); (case side1 => refine (Kd.R_reads' (e := 3) (base := w.heap.size) (ok := fun k_ => (some k_ ≠ (v758 : Value).ownBlock ∧ (some k_ ≠ (.slice Ao32 t770.length co32 : Value).ownBlock ∧ some k_ ≠ (.slice Ao42 t777.length co42 : Value).ownBlock))) (n := t791.length) (c := co51) ?_).2.2; exact (by (with_reducible repeat (first | apply Kd.R_alloc | apply Kd.R_drewN | apply Kd.R_drew)); exact (fR3 HO793.out BK795.out (by decide)))); (case side2 => exact (Kd.R_reads' HO793.out).2.1); (case side3 => refine (Kd.R_reads' (e := 3) (base := w.heap.size) (ok := fun k_ => (some k_ ≠ (v758 : Value).ownBlock ∧ (some k_ ≠ (.slice Ao42 t777.length co42 : Value).ownBlock ∧ some k_ ≠ (.slice Ao51 t791.length co51 : Value).ownBlock))) (n := t770.length) (c := co32) ?_).2.2; exact (by (with_reducible repeat (first | apply Kd.R_alloc | apply Kd.R_drewN | apply Kd.R_drew)); exact (fR3 HO772.out BK795.out (by decide)))); (case side4 => exact (Kd.R_reads' HO772.out).2.1); rintro e w74 ⟨rfl, hb⟩; refine ⟨_, rfl, ?_⟩; replace HO759 := az (Kd.R_below (by (with_reducible repeat (first | apply Kd.R_alloc | apply Kd.R_drewN | apply Kd.R_drew)); exact (fR3 HO759.out BK795.out (by decide))) hb); replace HO772 := az (Kd.R_below (by (with_reducible repeat (first | apply Kd.R_alloc | apply Kd.R_drewN | apply Kd.R_drew)); exact (fR3 HO772.out BK795.out (by decide))) hb); replace HO779 := az (Kd.R_below (by (with_reducible repeat (first | apply Kd.R_alloc | apply Kd.R_drewN | apply Kd.R_drew)); exact (fR3 HO779.out BK795.out (by decide))) hb); replace HO793 := az (Kd.R_below (by (with_reducible repeat (first | apply Kd.R_alloc | apply Kd.R_drewN | apply Kd.R_drew)); exact (fR3 HO793.out BK795.out (by decide))) hb); replace BK752 := az (blk_below (g := gb752) (o := .cells #[.int .i64 a0_0, .int .i64 a0_1, .slice A0_2 l0_2.length c0_2] 57 (0, 0)) (by (repeat (first | (with_reducible first | apply bn | apply bd | apply ba) | apply bf NB752_795)); exact BK752.out) hb); replace BK753 := az (blk_below (g := gb753) (o := .cells #[.int .i64 a1_0, .int .i64 a1_1, .int .i64 a1_2, .int .i64 a1_3, .int .i64 a1_4, .int .i64 a1_5, .int .i64 a1_6, .int .i64 a1_7] 58 (0, 0)) (by (repeat (first | (with_reducible first | apply bn | apply bd | apply ba) | apply bf NB753_795)); exact BK753.out) hb); replace BK774 := az (blk_below (g := gb774) (o := .cells #[.int .i64 t768, .int .i64 t769, .slice Ao32 t770.length co32] 25 (0, 0)) (by (repeat (first | (with_reducible first | apply bn | apply bd | apply ba) | apply bf NB774_795)); exact BK774.out) hb); replace BK780 := az (blk_below (g := gb780) (o := .cells #[.int .i64 t775, .int .i64 t776, .slice Ao42 t777.length co42] 25 (0, 0)) (by (repeat (first | (with_reducible first | apply bn | apply bd | apply ba) | apply bf NB780_795)); exact BK780.out) hb); replace BK795 := az (blk_below (g := gb795) (o := .cells #[.int .i64 t789, .int .i64 t790, .slice Ao51 t791.length co51] 25 (0, 0)) (by (with_reducible repeat (first | apply bn | apply bd | apply ba)); exact p3 BK795) hb); replace HB := az (below_step (by repeat (first | (with_reducible first | exact HB.out | apply wa | apply wn | apply wd | refine ws ‹_› ?_) | exact HB.out)) hb); (try clear hb); (try clear hb2); (try clear hk); (try clear hi)))
    go_meet
    case rel => exact ⟨_, (true), (by first | rfl | (simp; done) | (simp [*]; done)), H', ⟨by first | omega | exact Nat.le_refl _⟩, ⟨by (with_reducible repeat (first | apply Kd.R_alloc | apply Kd.R_drewN | apply Kd.R_drew)); exact Kd.R_mono HO772.out (fun _ hk => ⟨hk.2.1, hk.2.2⟩)⟩, ⟨by (with_reducible repeat (first | apply Kd.R_alloc | apply Kd.R_drewN | apply Kd.R_drew)); exact Kd.R_mono HO779.out (fun _ hk => ⟨hk.2.1, hk.2.2⟩)⟩, ⟨by (with_reducible repeat (first | apply Kd.R_alloc | apply Kd.R_drewN | apply Kd.R_drew)); exact Kd.R_mono HO793.out (fun _ hk => ⟨hk.2.1, hk.2.2⟩)⟩, ⟨by (with_reducible repeat (first | apply bn | apply bd | apply ba)); exact BK752.out⟩, ⟨by (with_reducible repeat (first | apply bn | apply bd | apply ba)); exact BK753.out⟩, ⟨by (with_reducible repeat (first | apply bn | apply bd | apply ba)); exact BK774.out⟩, ⟨by (with_reducible repeat (first | apply bn | apply bd | apply ba)); exact BK780.out⟩, ⟨by (with_reducible repeat (first | apply bn | apply bd | apply ba)); exact BK795.out⟩, ⟨by repeat (first | (with_reducible first | exact HB.out | apply wa | apply wn | apply wd | refine ws ‹_› ?_) | exact HB.out)⟩⟩
  case rest =>
   clear HC17;(try clear p2);(try clear c4);(try clear c5);(try clear c6);(try clear c7);(try clear c42);(try clear c52);(try clear c53);(try clear c54);(try clear c55);(try clear c56);(try clear c57);(try clear c58);(try clear c60);(try clear c61);(try clear c62);(try clear c65);(try clear c66);(try clear c67);(try clear c68);(try clear c70);(try clear c71);(try clear c72);(try clear hcz59_0);(try clear hcz59_1);(try clear hcz59_2);(try clear hcz63_0);(try clear hcz63_1);(try clear hcz63_2);(try clear hcz69_0);(try clear hcz69_1);(try clear hcz69_2);(try clear hcz73_0);(try clear hcz73_1);(try clear hcz73_2);(try clear hfz59_0);(try clear hfz59_1);(try clear hfz59_2);(try clear hfz63_0);(try clear hfz63_1);(try clear hfz63_2);(try clear hfz69_0);(try clear hfz69_1);(try clear hfz69_2);(try clear hfz73_0);(try clear hfz73_1);(try clear hfz73_2)
   obtain ⟨kq, x50_16, rfl, HA, HJ16, HO_775002, HO_781002, HO_796002, BK752, BK753, BK774, BK780, BK795, HB⟩ := hcut
   cases kq with
   | zero => exact absurd HA.out (by simp [laws_FnExactRecDo.j0])
   | succ kj16 =>
    have H := HA.out
    clear HA
    simp only [laws_FnExactRecDo.j0] at H
    by_cases c75 : x50_16 = true
    ·subst c75
     have H1 : (some false) = some r := by rw [if_pos rfl] at H; exact H
     clear H
     have H := H1
     clear H1
     obtain rfl := Option.some.inj H
     exact absurd hT_.out (by simp)
    ·replace c75 := Bool.eq_false_iff.mpr c75
     subst c75
     have H1 : ((laws_toPage.f kj16 a0_0 a0_1 l0_2).bind fun bt797 => ((laws_eqPage.f kj16 t775 t776 t777 bt797.1 bt797.2.1 bt797.2.2).bind fun t802 => (if t802 = true then ((laws_markPage.f kj16 t775 t776 t777 1).bind fun bt803 => (if bt803.1 < 0 then (laws_FnExactRecDo.j1 kj16 a2 t773 true a0_0 a0_1 l0_2 a1_0 a1_1 a1_2 a1_3 a1_4 a1_5 a1_6 a1_7 t768 t769 t770 t789 t790 t791) else ((laws_eqPage.f kj16 t789 t790 t791 t768 t769 t770).bind fun t805 => (if t805 = true then (laws_FnExactRecDo.j1 kj16 a2 t773 (t794 != t773) a0_0 a0_1 l0_2 a1_0 a1_1 a1_2 a1_3 a1_4 a1_5 a1_6 a1_7 t768 t769 t770 t789 t790 t791) else (laws_FnExactRecDo.j1 kj16 a2 t773 true a0_0 a0_1 l0_2 a1_0 a1_1 a1_2 a1_3 a1_4 a1_5 a1_6 a1_7 t768 t769 t770 t789 t790 t791))))) else (some false)))) = some r := by rw [if_neg (show ¬ (false = true) by decide)] at H; exact H
     clear H
     have H := H1
     clear H1
     replace H := Option.bind_eq_some_iff.mp H
     obtain ⟨⟨t797, t798, t799⟩, A760, H⟩ := H
     replace H : ((laws_eqPage.f kj16 t775 t776 t777 t797 t798 t799).bind fun t802 => (if t802 = true then ((laws_markPage.f kj16 t775 t776 t777 1).bind fun bt803 => (if bt803.1 < 0 then (laws_FnExactRecDo.j1 kj16 a2 t773 true a0_0 a0_1 l0_2 a1_0 a1_1 a1_2 a1_3 a1_4 a1_5 a1_6 a1_7 t768 t769 t770 t789 t790 t791) else ((laws_eqPage.f kj16 t789 t790 t791 t768 t769 t770).bind fun t805 => (if t805 = true then (laws_FnExactRecDo.j1 kj16 a2 t773 (t794 != t773) a0_0 a0_1 l0_2 a1_0 a1_1 a1_2 a1_3 a1_4 a1_5 a1_6 a1_7 t768 t769 t770 t789 t790 t791) else (laws_FnExactRecDo.j1 kj16 a2 t773 true a0_0 a0_1 l0_2 a1_0 a1_1 a1_2 a1_3 a1_4 a1_5 a1_6 a1_7 t768 t769 t770 t789 t790 t791))))) else (some false))) = some r := H
     have A76 := az A760
     clear A760
     replace H := Option.bind_eq_some_iff.mp H
     obtain ⟨t802, A770, H⟩ := H
     replace H : (if t802 = true then ((laws_markPage.f kj16 t775 t776 t777 1).bind fun bt803 => (if bt803.1 < 0 then (laws_FnExactRecDo.j1 kj16 a2 t773 true a0_0 a0_1 l0_2 a1_0 a1_1 a1_2 a1_3 a1_4 a1_5 a1_6 a1_7 t768 t769 t770 t789 t790 t791) else ((laws_eqPage.f kj16 t789 t790 t791 t768 t769 t770).bind fun t805 => (if t805 = true then (laws_FnExactRecDo.j1 kj16 a2 t773 (t794 != t773) a0_0 a0_1 l0_2 a1_0 a1_1 a1_2 a1_3 a1_4 a1_5 a1_6 a1_7 t768 t769 t770 t789 t790 t791) else (laws_FnExactRecDo.j1 kj16 a2 t773 true a0_0 a0_1 l0_2 a1_0 a1_1 a1_2 a1_3 a1_4 a1_5 a1_6 a1_7 t768 t769 t770 t789 t790 t791))))) else (some false)) = some r := H
     have A77 := az A770
     clear A770
     by_cases c78 : t802 = true
     ·subst c78
      have H1 : ((laws_markPage.f kj16 t775 t776 t777 1).bind fun bt803 => (if bt803.1 < 0 then (laws_FnExactRecDo.j1 kj16 a2 t773 true a0_0 a0_1 l0_2 a1_0 a1_1 a1_2 a1_3 a1_4 a1_5 a1_6 a1_7 t768 t769 t770 t789 t790 t791) else ((laws_eqPage.f kj16 t789 t790 t791 t768 t769 t770).bind fun t805 => (if t805 = true then (laws_FnExactRecDo.j1 kj16 a2 t773 (t794 != t773) a0_0 a0_1 l0_2 a1_0 a1_1 a1_2 a1_3 a1_4 a1_5 a1_6 a1_7 t768 t769 t770 t789 t790 t791) else (laws_FnExactRecDo.j1 kj16 a2 t773 true a0_0 a0_1 l0_2 a1_0 a1_1 a1_2 a1_3 a1_4 a1_5 a1_6 a1_7 t768 t769 t770 t789 t790 t791))))) = some r := by rw [if_pos rfl] at H; exact H
      clear H
      have H := H1
      clear H1
      replace H := Option.bind_eq_some_iff.mp H
      obtain ⟨⟨t803, t804⟩, A790, H⟩ := H
      replace H : (if t803 < 0 then (laws_FnExactRecDo.j1 kj16 a2 t773 true a0_0 a0_1 l0_2 a1_0 a1_1 a1_2 a1_3 a1_4 a1_5 a1_6 a1_7 t768 t769 t770 t789 t790 t791) else ((laws_eqPage.f kj16 t789 t790 t791 t768 t769 t770).bind fun t805 => (if t805 = true then (laws_FnExactRecDo.j1 kj16 a2 t773 (t794 != t773) a0_0 a0_1 l0_2 a1_0 a1_1 a1_2 a1_3 a1_4 a1_5 a1_6 a1_7 t768 t769 t770 t789 t790 t791) else (laws_FnExactRecDo.j1 kj16 a2 t773 true a0_0 a0_1 l0_2 a1_0 a1_1 a1_2 a1_3 a1_4 a1_5 a1_6 a1_7 t768 t769 t770 t789 t790 t791)))) = some r := H
      have A79 := az A790
      clear A790
      have HC80 := az H
      clear H
      try go_wp2
      replace HO_775002 := az (Kd.R_drew HO_775002.out)
      replace HO_781002 := az (Kd.R_drew HO_781002.out)
      replace HO_796002 := az (Kd.R_drew HO_796002.out)
      replace BK752 := az (blk_drew BK752.out)
      replace BK753 := az (blk_drew BK753.out)
      replace BK774 := az (blk_drew BK774.out)
      replace BK780 := az (blk_drew BK780.out)
      replace BK795 := az (blk_drew BK795.out)
      replace HB := az (wd HB.out)
      refine start_ (n := 5) (S := fun w' => w'.cell? ⟨gb780, 0, none⟩ = some (.int .i64 t775) ∧ w'.cell? ⟨gb780, 1, none⟩ = some (.int .i64 t776) ∧ w'.cell? ⟨gb780, 2, none⟩ = some (.slice Ao42 t777.length co42) ∧ w'.cell? ⟨gb752, 0, none⟩ = some (.int .i64 a0_0) ∧ w'.cell? ⟨gb752, 1, none⟩ = some (.int .i64 a0_1) ∧ w'.cell? ⟨gb752, 2, none⟩ = some (.slice A0_2 l0_2.length c0_2)) (ds := []) #[false, false, false, false, false] (by kernel_rfl) rfl rfl ⟨bt BK780 rfl, bt BK780 rfl, bt BK780 rfl, bt BK752 rfl, bt BK752 rfl, bt BK752 rfl⟩ (fun hHeld => ?_)
      generalize wc.drew = w81 at HO_775002 HO_781002 HO_796002 BK752 BK753 BK774 BK780 BK795 HB hHeld ⊢
      refine take_ (i := 0) (N := some 51) (v := ?_) (a' := ?_) #[true, false, false, false, false] rfl rfl (by kernel_rfl) (fun _ _ _ h => h) (Or.inl ⟨by rfl, ?_⟩) hHeld ?_ ?_
      rotate_left
      ·rintro w' ⟨s0, s1, s2, s3, s4, s5⟩
       go_simp
       with_reducible rfl
      rotate_left
      ·simp only [Act.put, List.setIfInBounds_toArray, List.set_cons_zero, List.set_cons_succ, i64_w, i32_w]
       rfl
      refine take_ (i := 1) (N := some 52) (v := ?_) (a' := ?_) #[true, true, false, false, false] rfl rfl (by kernel_rfl) (fun _ _ _ h => h) (Or.inl ⟨by rfl, ?_⟩) hHeld ?_ ?_
      rotate_left
      ·rintro w' ⟨s0, s1, s2, s3, s4, s5⟩
       go_simp
       with_reducible rfl
      rotate_left
      ·simp only [Act.put, List.setIfInBounds_toArray, List.set_cons_zero, List.set_cons_succ, i64_w, i32_w]
       rfl
      refine one_ (i := 2) (N := some 53) #[true, true, true, false, false] rfl rfl (by kernel_rfl) (by decide) (fun K hK => ?_)
      refine goes_ Try.func51 (by kernel_rfl) rfl #[.agg #[.int .i64 a0_0, .int .i64 a0_1, .slice A0_2 l0_2.length c0_2]] (by rfl) rfl rfl (by (try simp only [List.map_toArray, List.map_cons, List.map_nil]); first | done | rfl | (simp only [List.length_drop, List.length_take]; rfl)) ?_
      with_reducible refine (laws_toPage.calls kj16 a0_0 a0_1 _ _ l0_2 t797 t798 t799 _ ?side1 ?side2 A76.out).mono ?_
      (case side1 => repeat (first | exact (Kd.C_below HR0_2.out HB.out) | (with_reducible refine Kd.C_alloc ?_ _) | (with_reducible refine Kd.C_drewN ?_ _) | (with_reducible refine Kd.C_drew ?_)))
      (case side2 => exact HC0_2.out)
      rintro e w82 ⟨v800, rfl, ho0, hb⟩
      refine ⟨_, rfl, ?_⟩
      have HO801 := az (Kd.R_lower (Kd.R_new' (Kd.R_new' (Kd.R_new' ho0 (Kd.R_lt (by (with_reducible repeat (first | apply Kd.R_alloc | apply Kd.R_drewN | apply Kd.R_drew)); exact HO_775002.out))) (Kd.R_lt (by (with_reducible repeat (first | apply Kd.R_alloc | apply Kd.R_drewN | apply Kd.R_drew)); exact HO_781002.out))) (Kd.R_lt (by (with_reducible repeat (first | apply Kd.R_alloc | apply Kd.R_drewN | apply Kd.R_drew)); exact HO_796002.out))) (below_size (by repeat (first | (with_reducible first | exact HB.out | apply wa | apply wn | apply wd | refine ws ‹_› ?_) | exact HB.out))))
      replace HO_775002 := az (Kd.R_elder' (by (with_reducible repeat (first | apply Kd.R_alloc | apply Kd.R_drewN | apply Kd.R_drew)); exact HO_775002.out) (Kd.R_base ho0) hb)
      replace HO_781002 := az (Kd.R_elder' (by (with_reducible repeat (first | apply Kd.R_alloc | apply Kd.R_drewN | apply Kd.R_drew)); exact HO_781002.out) (Kd.R_base ho0) hb)
      replace HO_796002 := az (Kd.R_elder' (by (with_reducible repeat (first | apply Kd.R_alloc | apply Kd.R_drewN | apply Kd.R_drew)); exact HO_796002.out) (Kd.R_base ho0) hb)
      replace BK752 := bb BK752 (fun h => by (with_reducible repeat (first | apply bn | apply bd | apply ba)); exact h) hb
      replace BK753 := bb BK753 (fun h => by (with_reducible repeat (first | apply bn | apply bd | apply ba)); exact h) hb
      replace BK774 := bb BK774 (fun h => by (with_reducible repeat (first | apply bn | apply bd | apply ba)); exact h) hb
      replace BK780 := bb BK780 (fun h => by (with_reducible repeat (first | apply bn | apply bd | apply ba)); exact h) hb
      replace BK795 := bb BK795 (fun h => by (with_reducible repeat (first | apply bn | apply bd | apply ba)); exact h) hb
      replace HB := az (below_step (by repeat (first | (with_reducible first | exact HB.out | apply wa | apply wn | apply wd | refine ws ‹_› ?_) | exact HB.out)) hb)
      (try clear hb);(try clear hb2);(try clear hk);(try clear hi);(try clear ho0)
      obtain ⟨Ao83, co83, eo83⟩ := Kd.R_slice HO801.out
      (first | subst eo83 | (injection eo83 with f1_ f2_ f3_; have f4_ := f1_.symm; have f5_ := f3_.symm; clear f1_ f2_ f3_; subst f4_; subst f5_))
      refine hK.out _ _ ⟨bt BK780 rfl, bt BK780 rfl, bt BK780 rfl, bt BK752 rfl, bt BK752 rfl, bt BK752 rfl⟩ (fun hHeld => ?_)
      clear hK K
      refine norm_ (a' := ?_) ?_ ?_
      rotate_left
      ·show Act.put _ (some 53) _ = _
       simp only [Act.put, List.setIfInBounds_toArray, List.set_cons_zero, List.set_cons_succ, i64_w, i32_w]
       rfl
      refine one_ (i := 3) (N := some 54) #[true, true, true, true, false] rfl rfl (by kernel_rfl) (by decide) (fun K hK => ?_)
      refine goes_ Try.func53 (by kernel_rfl) rfl #[.agg #[.int .i64 t775, .int .i64 t776, .slice Ao42 t777.length co42], .agg #[.int .i64 t797, .int .i64 t798, .slice Ao83 t799.length co83]] (by rfl) rfl rfl (by (try simp only [List.map_toArray, List.map_cons, List.map_nil]); first | done | rfl | (simp only [List.length_drop, List.length_take]; rfl)) ?_
      with_reducible refine (laws_eqPage.calls kj16 t775 t776 _ _ t777 t797 t798 _ _ t799 true _ ?side1 ?side2 ?side3 ?side4 A77.out).mono ?_
      (case side1 => repeat (first | exact (Kd.R_reads' HO_781002.out).2.2 | (with_reducible refine Kd.C_alloc ?_ _) | (with_reducible refine Kd.C_drewN ?_ _) | (with_reducible refine Kd.C_drew ?_)))
      (case side2 => exact (Kd.R_reads' HO_781002.out).2.1)
      (case side3 => repeat (first | exact (Kd.R_reads' HO801.out).2.2 | (with_reducible refine Kd.C_alloc ?_ _) | (with_reducible refine Kd.C_drewN ?_ _) | (with_reducible refine Kd.C_drew ?_)))
      (case side4 => exact (Kd.R_reads' HO801.out).2.1)
      rintro e w84 ⟨rfl, hb⟩
      refine ⟨_, rfl, ?_⟩
      replace HO_775002 := az (Kd.R_below (by (with_reducible repeat (first | apply Kd.R_alloc | apply Kd.R_drewN | apply Kd.R_drew)); exact HO_775002.out) hb)
      replace HO_781002 := az (Kd.R_below (by (with_reducible repeat (first | apply Kd.R_alloc | apply Kd.R_drewN | apply Kd.R_drew)); exact HO_781002.out) hb)
      replace HO_796002 := az (Kd.R_below (by (with_reducible repeat (first | apply Kd.R_alloc | apply Kd.R_drewN | apply Kd.R_drew)); exact HO_796002.out) hb)
      replace HO801 := az (Kd.R_below (by (with_reducible repeat (first | apply Kd.R_alloc | apply Kd.R_drewN | apply Kd.R_drew)); exact HO801.out) hb)
      replace BK752 := bb BK752 (fun h => by (with_reducible repeat (first | apply bn | apply bd | apply ba)); exact h) hb
      replace BK753 := bb BK753 (fun h => by (with_reducible repeat (first | apply bn | apply bd | apply ba)); exact h) hb
      replace BK774 := bb BK774 (fun h => by (with_reducible repeat (first | apply bn | apply bd | apply ba)); exact h) hb
      replace BK780 := bb BK780 (fun h => by (with_reducible repeat (first | apply bn | apply bd | apply ba)); exact h) hb
      replace BK795 := bb BK795 (fun h => by (with_reducible repeat (first | apply bn | apply bd | apply ba)); exact h) hb
      replace HB := az (below_step (by repeat (first | (with_reducible first | exact HB.out | apply wa | apply wn | apply wd | refine ws ‹_› ?_) | exact HB.out)) hb)
      (try clear hb);(try clear hb2);(try clear hk);(try clear hi)
      refine hK.out _ _ ⟨bt BK780 rfl, bt BK780 rfl, bt BK780 rfl, bt BK752 rfl, bt BK752 rfl, bt BK752 rfl⟩ (fun hHeld => ?_)
      clear hK K
      refine norm_ (a' := ?_) ?_ ?_
      rotate_left
      ·show Act.put _ (some 54) _ = _
       simp only [Act.put, List.setIfInBounds_toArray, List.set_cons_zero, List.set_cons_succ, i64_w, i32_w]
       rfl
      refine pure_ (i := 4) (N := some 55) (v := ?_) (a' := ?_) #[true, true, true, true, true] rfl rfl (by kernel_rfl) (fun _ _ _ h => h) (Or.inl ⟨by rfl, ?_⟩) ?_ ?_
      rotate_left
      ·intro w'
       go_simp
       with_reducible rfl
      rotate_left
      ·simp only [Act.put, List.setIfInBounds_toArray, List.set_cons_zero, List.set_cons_succ, i64_w, i32_w]
       rfl
      refine done_ (by kernel_rfl) ?_
      have hnb85 := NB780_752.out
      have hnc85 := NB752_780.out
      have hnb86 := NB780_753.out
      have hnc86 := NB753_780.out
      have hnb87 := NB780_774.out
      have hnc87 := NB774_780.out
      have hnb88 := NB780_795.out
      have hnc88 := NB795_780.out
      obtain ⟨hcz89_0, hcz89_1, hcz89_2⟩ := cz3 BK780
      obtain ⟨hfz89_0, hfz89_1, hfz89_2⟩ := fz3 BK780
      go_upto_region 14 with (first | ((with_reducible refine gate_callee (f := 54) rfl ?_); refine goesL_ (some 58) rfl rfl Try.func54 (by kernel_rfl) rfl #[.agg #[.int .i64 t775, .int .i64 t776, .slice Ao42 t777.length co42], .int .i64 1] rfl (by (try simp only [List.map_toArray, List.map_cons, List.map_nil]); first | done | rfl | (simp only [List.length_drop, List.length_take]; rfl)) ?_; (with_reducible refine (laws_markPage.calls kj16 t775 t776 (fun k_ => some k_ = (.slice Ao42 t777.length co42 : Value).ownBlock) (.slice Ao42 t777.length co42) t777 1 t803 t804 w _ ?side1 ?side2 A79.out).mono ?_); (case side1 => repeat (first | (with_reducible first | exact HB.out | apply wa | apply wn | apply wd | refine ws ‹_› ?_) | exact HB.out)); (case side2 => exact Kd.R_tight rfl HO_781002.out); rintro e w90 ⟨rfl, hy0, hb, hkp⟩; refine ⟨_, rfl, ?_⟩; replace HO_775002 := az (Kd.R_mono (ok' := fun k_ => some k_ ≠ (.slice Ao42 t777.length co42 : Value).ownBlock ∧ some k_ ≠ (.slice Ao51 t791.length co51 : Value).ownBlock ∧ some k_ ≠ (.slice Ao83 t799.length co83 : Value).ownBlock) (Kd.R_keptB (HO_775002.out) hkp (fun k_ hk_ hs_ => (hk_.1.1) hs_)) (fun k_ hk_ => ⟨hk_.1.1.1, hk_.1.1.2, hk_.1.2⟩)); replace HO_796002 := az (Kd.R_mono (ok' := fun k_ => some k_ ≠ (.slice Ao32 t770.length co32 : Value).ownBlock ∧ some k_ ≠ (.slice Ao42 t777.length co42 : Value).ownBlock ∧ some k_ ≠ (.slice Ao83 t799.length co83 : Value).ownBlock) (Kd.R_keptB (HO_796002.out) hkp (fun k_ hk_ hs_ => (hk_.1.2) hs_)) (fun k_ hk_ => ⟨hk_.1.1.1, hk_.1.1.2, hk_.1.2⟩)); replace BK752 := az (blk_kept (by (with_reducible repeat (first | apply bn | apply bd | apply ba)); exact BK752.out) hkp (fun hs_ => (fun e_ => (Kd.R_ne HO_781002.out BK752.out (by decide)) e_) hs_)); replace BK753 := az (blk_kept (by (with_reducible repeat (first | apply bn | apply bd | apply ba)); exact BK753.out) hkp (fun hs_ => (fun e_ => (Kd.R_ne HO_781002.out BK753.out (by decide)) e_) hs_)); replace BK774 := az (blk_kept (by (with_reducible repeat (first | apply bn | apply bd | apply ba)); exact BK774.out) hkp (fun hs_ => (fun e_ => (Kd.R_ne HO_781002.out BK774.out (by decide)) e_) hs_)); replace BK780 := az (blk_kept (by (with_reducible repeat (first | apply bn | apply bd | apply ba)); exact BK780.out) hkp (fun hs_ => (fun e_ => (Kd.R_ne HO_781002.out BK780.out (by decide)) e_) hs_)); replace BK795 := az (blk_kept (by (with_reducible repeat (first | apply bn | apply bd | apply ba)); exact BK795.out) hkp (fun hs_ => (fun e_ => (Kd.R_ne HO_781002.out BK795.out (by decide)) e_) hs_)); replace HO_781002 := az (Kd.R_reok rfl hy0 (fun k_ e_ => HO_781002.out.1 k_ e_)); replace HO801 := az (Kd.R_mono (ok' := fun k_ => some k_ ≠ (.slice Ao32 t770.length co32 : Value).ownBlock ∧ some k_ ≠ (.slice Ao42 t777.length co42 : Value).ownBlock ∧ some k_ ≠ (.slice Ao51 t791.length co51 : Value).ownBlock) (Kd.R_keptB (HO801.out) hkp (fun k_ hk_ hs_ => (hk_.1.2) hs_)) (fun k_ hk_ => ⟨hk_.1.1.1.2, hk_.1.1.2, hk_.1.2⟩)); replace HB := az (hb); (try clear hb); (try clear hkp); (try clear hy0)))
      (try simp only [Act.put, List.setIfInBounds_toArray, List.set_cons_zero, List.set_cons_succ])
      go_cut [71] (fun v71 wc => ∃ (kq : Nat) (x71_79 : Bool), v71 = .bool x71_79 ∧ Aside0 (laws_FnExactRecDo.j1 kq a2 t773 x71_79 a0_0 a0_1 l0_2 a1_0 a1_1 a1_2 a1_3 a1_4 a1_5 a1_6 a1_7 t768 t769 t770 t789 t790 t791 = some r) ∧ Aside0 (kq ≤ kj16) ∧ Aside0 (Kd.R (Kd.int .i64) 3 wc w.heap.size (fun k_ => some k_ ≠ ((.slice Ao42 t777.length co42) : Value).ownBlock ∧ some k_ ≠ ((.slice Ao51 t791.length co51) : Value).ownBlock) (.slice Ao32 t770.length co32) t770) ∧ Aside0 (Kd.R (Kd.int .i64) 3 wc w.heap.size (fun k_ => some k_ ≠ ((.slice Ao32 t770.length co32) : Value).ownBlock ∧ some k_ ≠ ((.slice Ao51 t791.length co51) : Value).ownBlock) (.slice Ao42 t777.length co42) t804) ∧ Aside0 (Kd.R (Kd.int .i64) 3 wc w.heap.size (fun k_ => some k_ ≠ ((.slice Ao32 t770.length co32) : Value).ownBlock ∧ some k_ ≠ ((.slice Ao42 t777.length co42) : Value).ownBlock) (.slice Ao51 t791.length co51) t791) ∧ Aside0 (wc.heap[gb752]? = some (.cells #[.int .i64 a0_0, .int .i64 a0_1, (.slice A0_2 l0_2.length c0_2)] 57 (0, 0))) ∧ Aside0 (wc.heap[gb753]? = some (.cells #[.int .i64 a1_0, .int .i64 a1_1, .int .i64 a1_2, .int .i64 a1_3, .int .i64 a1_4, .int .i64 a1_5, .int .i64 a1_6, .int .i64 a1_7] 58 (0, 0))) ∧ Aside0 (wc.heap[gb774]? = some (.cells #[.int .i64 t768, .int .i64 t769, (.slice Ao32 t770.length co32)] 25 (0, 0))) ∧ Aside0 (wc.heap[gb780]? = some (.cells #[.int .i64 t775, .int .i64 t776, (.slice Ao42 t777.length co42)] 25 (0, 0))) ∧ Aside0 (wc.heap[gb795]? = some (.cells #[.int .i64 t789, .int .i64 t790, (.slice Ao51 t791.length co51)] 25 (0, 0))) ∧ Aside0 (Below w.heap.size w wc))
      case first =>
       have H := HC80.out
       clear HC80
       by_cases c91 : t803 < 0
       ·rw [if_pos c91] at H
        have c91b0 : decide (t803 < 0) = true := decide_eq_true c91
        clear c91
        (first | rw [c91b0] | (simp only [i64_w, i32_w]; rw [c91b0]) | skip)
        have H' := az H
        clear H
        go_wp2
        go_meet
        case rel => exact ⟨_, (true), (by first | rfl | (simp; done) | (simp [*]; done)), H', ⟨by have := HJ16.out; first | omega | exact Nat.le_refl _⟩, ⟨by (with_reducible repeat (first | apply Kd.R_alloc | apply Kd.R_drewN | apply Kd.R_drew)); exact Kd.R_mono HO_775002.out (fun _ hk => ⟨hk.1, hk.2.1⟩)⟩, ⟨by (with_reducible repeat (first | apply Kd.R_alloc | apply Kd.R_drewN | apply Kd.R_drew)); exact Kd.R_mono HO_781002.out (fun _ hk => ⟨hk.1.1, hk.1.2⟩)⟩, ⟨by (with_reducible repeat (first | apply Kd.R_alloc | apply Kd.R_drewN | apply Kd.R_drew)); exact Kd.R_mono HO_796002.out (fun _ hk => ⟨hk.1, hk.2.1⟩)⟩, ⟨by (with_reducible repeat (first | apply bn | apply bd | apply ba)); exact BK752.out⟩, ⟨by (with_reducible repeat (first | apply bn | apply bd | apply ba)); exact BK753.out⟩, ⟨by (with_reducible repeat (first | apply bn | apply bd | apply ba)); exact BK774.out⟩, ⟨by (with_reducible repeat (first | apply bn | apply bd | apply ba)); exact BK780.out⟩, ⟨by (with_reducible repeat (first | apply bn | apply bd | apply ba)); exact BK795.out⟩, ⟨by repeat (first | (with_reducible first | exact HB.out | apply wa | apply wn | apply wd | refine ws ‹_› ?_) | exact HB.out)⟩⟩
       ·rw [if_neg c91] at H
        have c91b0 : decide (t803 < 0) = false := decide_eq_false c91
        clear c91
        (first | rw [c91b0] | (simp only [i64_w, i32_w]; rw [c91b0]) | skip)
        replace H := Option.bind_eq_some_iff.mp H
        obtain ⟨t805, A920, H⟩ := H
        replace H : (if t805 = true then (laws_FnExactRecDo.j1 kj16 a2 t773 (t794 != t773) a0_0 a0_1 l0_2 a1_0 a1_1 a1_2 a1_3 a1_4 a1_5 a1_6 a1_7 t768 t769 t770 t789 t790 t791) else (laws_FnExactRecDo.j1 kj16 a2 t773 true a0_0 a0_1 l0_2 a1_0 a1_1 a1_2 a1_3 a1_4 a1_5 a1_6 a1_7 t768 t769 t770 t789 t790 t791)) = some r := H
        have A92 := az A920
        clear A920
        by_cases c93 : t805 = true
        ·subst c93
         have H1 : (laws_FnExactRecDo.j1 kj16 a2 t773 (t794 != t773) a0_0 a0_1 l0_2 a1_0 a1_1 a1_2 a1_3 a1_4 a1_5 a1_6 a1_7 t768 t769 t770 t789 t790 t791) = some r := by rw [if_pos rfl] at H; exact H
         clear H
         have H := H1
         clear H1
         have H' := az H
         clear H
         have hnb94 := NB795_752.out
         have hnc94 := NB752_795.out
         have hnb95 := NB795_753.out
         have hnc95 := NB753_795.out
         have hnb96 := NB795_774.out
         have hnc96 := NB774_795.out
         have hnb97 := NB795_780.out
         have hnc97 := NB780_795.out
         obtain ⟨hcz98_0, hcz98_1, hcz98_2⟩ := cz3 BK795
         obtain ⟨hfz98_0, hfz98_1, hfz98_2⟩ := fz3 BK795
         have hnb99 := NB774_752.out
         have hnc99 := NB752_774.out
         have hnb100 := NB774_753.out
         have hnc100 := NB753_774.out
         have hnb101 := NB774_780.out
         have hnc101 := NB780_774.out
         obtain ⟨hcz102_0, hcz102_1, hcz102_2⟩ := cz3 BK774
         obtain ⟨hfz102_0, hfz102_1, hfz102_2⟩ := fz3 BK774
         go_wp2_with (first | (go_at_call 53; (with_reducible refine (laws_eqPage.calls kj16 t789 t790 _ _ t791 t768 t769 _ _ t770 true _ ?side1 ?side2 ?side3 ?side4 A92.out).mono ?_); (case side1 => repeat (first | exact (Kd.R_reads' HO_796002.out).2.2 | (with_reducible refine Kd.C_alloc ?_ _) | (with_reducible refine Kd.C_drewN ?_ _) | (with_reducible refine Kd.C_drew ?_))); (case side2 => exact (Kd.R_reads' HO_796002.out).2.1); (case side3 => repeat (first | exact (Kd.R_reads' HO_775002.out).2.2 | (with_reducible refine Kd.C_alloc ?_ _) | (with_reducible refine Kd.C_drewN ?_ _) | (with_reducible refine Kd.C_drew ?_))); (case side4 => exact (Kd.R_reads' HO_775002.out).2.1); rintro e w103 ⟨rfl, hb⟩; replace HO_775002 := az (Kd.R_below (by (with_reducible repeat (first | apply Kd.R_alloc | apply Kd.R_drewN | apply Kd.R_drew)); exact HO_775002.out) hb); replace HO_781002 := az (Kd.R_below (by (with_reducible repeat (first | apply Kd.R_alloc | apply Kd.R_drewN | apply Kd.R_drew)); exact HO_781002.out) hb); replace HO_796002 := az (Kd.R_below (by (with_reducible repeat (first | apply Kd.R_alloc | apply Kd.R_drewN | apply Kd.R_drew)); exact HO_796002.out) hb); replace HO801 := az (Kd.R_below (by (with_reducible repeat (first | apply Kd.R_alloc | apply Kd.R_drewN | apply Kd.R_drew)); exact HO801.out) hb); replace BK752 := bb BK752 (fun h => by (with_reducible repeat (first | apply bn | apply bd | apply ba)); exact h) hb; replace BK753 := bb BK753 (fun h => by (with_reducible repeat (first | apply bn | apply bd | apply ba)); exact h) hb; replace BK774 := bb BK774 (fun h => by (with_reducible repeat (first | apply bn | apply bd | apply ba)); exact h) hb; replace BK780 := bb BK780 (fun h => by (with_reducible repeat (first | apply bn | apply bd | apply ba)); exact h) hb; replace BK795 := bb BK795 (fun h => by (with_reducible repeat (first | apply bn | apply bd | apply ba)); exact h) hb; replace HB := az (below_step (by repeat (first | (with_reducible first | exact HB.out | apply wa | apply wn | apply wd | refine ws ‹_› ?_) | exact HB.out)) hb); (try clear hb); (try clear hb2); (try clear hk); (try clear hi)))
         go_meet
         case rel => exact ⟨_, ((t794 != t773)), (by first | rfl | (simp; done) | (simp [*]; done)), H', ⟨by have := HJ16.out; first | omega | exact Nat.le_refl _⟩, ⟨by (with_reducible repeat (first | apply Kd.R_alloc | apply Kd.R_drewN | apply Kd.R_drew)); exact Kd.R_mono HO_775002.out (fun _ hk => ⟨hk.1, hk.2.1⟩)⟩, ⟨by (with_reducible repeat (first | apply Kd.R_alloc | apply Kd.R_drewN | apply Kd.R_drew)); exact Kd.R_mono HO_781002.out (fun _ hk => ⟨hk.1.1, hk.1.2⟩)⟩, ⟨by (with_reducible repeat (first | apply Kd.R_alloc | apply Kd.R_drewN | apply Kd.R_drew)); exact Kd.R_mono HO_796002.out (fun _ hk => ⟨hk.1, hk.2.1⟩)⟩, ⟨by (with_reducible repeat (first | apply bn | apply bd | apply ba)); exact BK752.out⟩, ⟨by (with_reducible repeat (first | apply bn | apply bd | apply ba)); exact BK753.out⟩, ⟨by (with_reducible repeat (first | apply bn | apply bd | apply ba)); exact BK774.out⟩, ⟨by (with_reducible repeat (first | apply bn | apply bd | apply ba)); exact BK780.out⟩, ⟨by (with_reducible repeat (first | apply bn | apply bd | apply ba)); exact BK795.out⟩, ⟨by repeat (first | (with_reducible first | exact HB.out | apply wa | apply wn | apply wd | refine ws ‹_› ?_) | exact HB.out)⟩⟩
        ·replace c93 := Bool.eq_false_iff.mpr c93
         subst c93
         have H1 : (laws_FnExactRecDo.j1 kj16 a2 t773 true a0_0 a0_1 l0_2 a1_0 a1_1 a1_2 a1_3 a1_4 a1_5 a1_6 a1_7 t768 t769 t770 t789 t790 t791) = some r := by rw [if_neg (show ¬ (false = true) by decide)] at H; exact H
         clear H
         have H := H1
         clear H1
         have H' := az H
         clear H
         have hnb104 := NB795_752.out
         have hnc104 := NB752_795.out
         have hnb105 := NB795_753.out
         have hnc105 := NB753_795.out
         have hnb106 := NB795_774.out
         have hnc106 := NB774_795.out
         have hnb107 := NB795_780.out
         have hnc107 := NB780_795.out
         obtain ⟨hcz108_0, hcz108_1, hcz108_2⟩ := cz3 BK795
         obtain ⟨hfz108_0, hfz108_1, hfz108_2⟩ := fz3 BK795
         have hnb109 := NB774_752.out
         have hnc109 := NB752_774.out
         have hnb110 := NB774_753.out
         have hnc110 := NB753_774.out
         have hnb111 := NB774_780.out
         have hnc111 := NB780_774.out
         obtain ⟨hcz112_0, hcz112_1, hcz112_2⟩ := cz3 BK774
         obtain ⟨hfz112_0, hfz112_1, hfz112_2⟩ := fz3 BK774
         go_wp2_with (first | (go_at_call 53; (with_reducible refine (laws_eqPage.calls kj16 t789 t790 _ _ t791 t768 t769 _ _ t770 false _ ?side1 ?side2 ?side3 ?side4 A92.out).mono ?_); (case side1 => repeat (first | exact (Kd.R_reads' HO_796002.out).2.2 | (with_reducible refine Kd.C_alloc ?_ _) | (with_reducible refine Kd.C_drewN ?_ _) | (with_reducible refine Kd.C_drew ?_))); (case side2 => exact (Kd.R_reads' HO_796002.out).2.1); (case side3 => repeat (first | exact (Kd.R_reads' HO_775002.out).2.2 | (with_reducible refine Kd.C_alloc ?_ _) | (with_reducible refine Kd.C_drewN ?_ _) | (with_reducible refine Kd.C_drew ?_))); (case side4 => exact (Kd.R_reads' HO_775002.out).2.1); rintro e w113 ⟨rfl, hb⟩; replace HO_775002 := az (Kd.R_below (by (with_reducible repeat (first | apply Kd.R_alloc | apply Kd.R_drewN | apply Kd.R_drew)); exact HO_775002.out) hb); replace HO_781002 := az (Kd.R_below (by (with_reducible repeat (first | apply Kd.R_alloc | apply Kd.R_drewN | apply Kd.R_drew)); exact HO_781002.out) hb); replace HO_796002 := az (Kd.R_below (by (with_reducible repeat (first | apply Kd.R_alloc | apply Kd.R_drewN | apply Kd.R_drew)); exact HO_796002.out) hb); replace HO801 := az (Kd.R_below (by (with_reducible repeat (first | apply Kd.R_alloc | apply Kd.R_drewN | apply Kd.R_drew)); exact HO801.out) hb); replace BK752 := bb BK752 (fun h => by (with_reducible repeat (first | apply bn | apply bd | apply ba)); exact h) hb; replace BK753 := bb BK753 (fun h => by (with_reducible repeat (first | apply bn | apply bd | apply ba)); exact h) hb; replace BK774 := bb BK774 (fun h => by (with_reducible repeat (first | apply bn | apply bd | apply ba)); exact h) hb; replace BK780 := bb BK780 (fun h => by (with_reducible repeat (first | apply bn | apply bd | apply ba)); exact h) hb; replace BK795 := bb BK795 (fun h => by (with_reducible repeat (first | apply bn | apply bd | apply ba)); exact h) hb; replace HB := az (below_step (by repeat (first | (with_reducible first | exact HB.out | apply wa | apply wn | apply wd | refine ws ‹_› ?_) | exact HB.out)) hb); (try clear hb); (try clear hb2); (try clear hk); (try clear hi)))
         go_meet
         case rel => exact ⟨_, (true), (by first | rfl | (simp; done) | (simp [*]; done)), H', ⟨by have := HJ16.out; first | omega | exact Nat.le_refl _⟩, ⟨by (with_reducible repeat (first | apply Kd.R_alloc | apply Kd.R_drewN | apply Kd.R_drew)); exact Kd.R_mono HO_775002.out (fun _ hk => ⟨hk.1, hk.2.1⟩)⟩, ⟨by (with_reducible repeat (first | apply Kd.R_alloc | apply Kd.R_drewN | apply Kd.R_drew)); exact Kd.R_mono HO_781002.out (fun _ hk => ⟨hk.1.1, hk.1.2⟩)⟩, ⟨by (with_reducible repeat (first | apply Kd.R_alloc | apply Kd.R_drewN | apply Kd.R_drew)); exact Kd.R_mono HO_796002.out (fun _ hk => ⟨hk.1, hk.2.1⟩)⟩, ⟨by (with_reducible repeat (first | apply bn | apply bd | apply ba)); exact BK752.out⟩, ⟨by (with_reducible repeat (first | apply bn | apply bd | apply ba)); exact BK753.out⟩, ⟨by (with_reducible repeat (first | apply bn | apply bd | apply ba)); exact BK774.out⟩, ⟨by (with_reducible repeat (first | apply bn | apply bd | apply ba)); exact BK780.out⟩, ⟨by (with_reducible repeat (first | apply bn | apply bd | apply ba)); exact BK795.out⟩, ⟨by repeat (first | (with_reducible first | exact HB.out | apply wa | apply wn | apply wd | refine ws ‹_› ?_) | exact HB.out)⟩⟩
      case rest =>
       clear HC80;(try clear c1);(try clear p2);(try clear c4);(try clear c5);(try clear c6);(try clear c7);(try clear c8);(try clear c9);(try clear c10);(try clear c11);(try clear c42);(try clear c51);(try clear c52);(try clear c53);(try clear c54);(try clear c55);(try clear c56);(try clear c57);(try clear c58);(try clear c60);(try clear c61);(try clear c62);(try clear c65);(try clear c66);(try clear c67);(try clear c68);(try clear c70);(try clear c71);(try clear c72);(try clear c75);(try clear c78);(try clear c85);(try clear c86);(try clear c87);(try clear c88);(try clear c91);(try clear c91b0);(try clear c93);(try clear c94);(try clear c95);(try clear c96);(try clear c97);(try clear c99);(try clear c100);(try clear c101);(try clear c104);(try clear c105);(try clear c106);(try clear c107);(try clear c109);(try clear c110);(try clear c111);(try clear hcz102_0);(try clear hcz102_1);(try clear hcz102_2);(try clear hcz108_0);(try clear hcz108_1);(try clear hcz108_2);(try clear hcz112_0);(try clear hcz112_1);(try clear hcz112_2);(try clear hcz59_0);(try clear hcz59_1);(try clear hcz59_2);(try clear hcz63_0);(try clear hcz63_1);(try clear hcz63_2);(try clear hcz69_0);(try clear hcz69_1);(try clear hcz69_2);(try clear hcz73_0);(try clear hcz73_1);(try clear hcz73_2);(try clear hcz89_0);(try clear hcz89_1);(try clear hcz89_2);(try clear hcz98_0);(try clear hcz98_1);(try clear hcz98_2);(try clear hfz102_0);(try clear hfz102_1);(try clear hfz102_2);(try clear hfz108_0);(try clear hfz108_1);(try clear hfz108_2);(try clear hfz112_0);(try clear hfz112_1);(try clear hfz112_2);(try clear hfz59_0);(try clear hfz59_1);(try clear hfz59_2);(try clear hfz63_0);(try clear hfz63_1);(try clear hfz63_2);(try clear hfz69_0);(try clear hfz69_1);(try clear hfz69_2);(try clear hfz73_0);(try clear hfz73_1);(try clear hfz73_2);(try clear hfz89_0);(try clear hfz89_1);(try clear hfz89_2);(try clear hfz98_0);(try clear hfz98_1);(try clear hfz98_2);(try clear p2)
       obtain ⟨kq, x71_79, rfl, HA, HJ79, HO_775002, HO_781002, HO_796002, BK752, BK753, BK774, BK780, BK795, HB⟩ := hcut
       have hl781002_79 := (Kd.R_reads' HO_781002.out).1
       rw [hl781002_79] at HO_781002
       (try simp only [hl781002_79])
       (try simp only [hl781002_79] at BK752)
       (try simp only [hl781002_79] at BK753)
       (try simp only [hl781002_79] at BK774)
       (try simp only [hl781002_79] at BK780)
       (try simp only [hl781002_79] at BK795)
       (try simp only [hl781002_79] at HO_775002)
       (try simp only [hl781002_79] at HO_796002)
       cases kq with
       | zero => exact absurd HA.out (by simp [laws_FnExactRecDo.j1])
       | succ kj79 =>
        have H := HA.out
        clear HA
        simp only [laws_FnExactRecDo.j1] at H
        by_cases c114 : x71_79 = true
        ·subst c114
         have H1 : (some false) = some r := by rw [if_pos rfl] at H; exact H
         clear H
         have H := H1
         clear H1
         obtain rfl := Option.some.inj H
         exact absurd hT_.out (by simp)
        ·replace c114 := Bool.eq_false_iff.mpr c114
         subst c114
         have H1 : ((laws_markPage.f kj79 t789 t790 t791 1).bind fun bt806 => ((laws_heldPage.f kj79 t789 t790 bt806.2 1).bind fun t808 => (if t808 < 0 then (some false) else (if t808 = bt806.1 then ((laws_toPage.f kj79 a0_0 a0_1 l0_2).bind fun bt809 => ((laws_toRec.f a1_0 a1_1 a1_2 a1_3 a1_4 a1_5 a1_6 a1_7).bind fun bt814 => ((impl_RecDo.f kj79 bt809.1 bt809.2.1 bt809.2.2 bt814.1 bt814.2.1 bt814.2.2.1 bt814.2.2.2.1 bt814.2.2.2.2.1 bt814.2.2.2.2.2.1 bt814.2.2.2.2.2.2.1 bt814.2.2.2.2.2.2.2 a2).bind fun bt822 => ((laws_eqPage.f kj79 bt822.1 bt822.2.1 bt822.2.2.1 t768 t769 t770).bind fun t829 => (if t829 = true then (laws_FnExactRecDo.j2 kj79 bt806.1 (bt822.2.2.2 != t773) t789 t790 bt806.2) else (laws_FnExactRecDo.j2 kj79 bt806.1 true t789 t790 bt806.2)))))) else (some false))))) = some r := by rw [if_neg (show ¬ (false = true) by decide)] at H; exact H
         clear H
         have H := H1
         clear H1
         replace H := Option.bind_eq_some_iff.mp H
         obtain ⟨⟨t806, t807⟩, A1150, H⟩ := H
         replace H : ((laws_heldPage.f kj79 t789 t790 t807 1).bind fun t808 => (if t808 < 0 then (some false) else (if t808 = t806 then ((laws_toPage.f kj79 a0_0 a0_1 l0_2).bind fun bt809 => ((laws_toRec.f a1_0 a1_1 a1_2 a1_3 a1_4 a1_5 a1_6 a1_7).bind fun bt814 => ((impl_RecDo.f kj79 bt809.1 bt809.2.1 bt809.2.2 bt814.1 bt814.2.1 bt814.2.2.1 bt814.2.2.2.1 bt814.2.2.2.2.1 bt814.2.2.2.2.2.1 bt814.2.2.2.2.2.2.1 bt814.2.2.2.2.2.2.2 a2).bind fun bt822 => ((laws_eqPage.f kj79 bt822.1 bt822.2.1 bt822.2.2.1 t768 t769 t770).bind fun t829 => (if t829 = true then (laws_FnExactRecDo.j2 kj79 t806 (bt822.2.2.2 != t773) t789 t790 t807) else (laws_FnExactRecDo.j2 kj79 t806 true t789 t790 t807)))))) else (some false)))) = some r := H
         have A115 := az A1150
         clear A1150
         replace H := Option.bind_eq_some_iff.mp H
         obtain ⟨t808, A1160, H⟩ := H
         replace H : (if t808 < 0 then (some false) else (if t808 = t806 then ((laws_toPage.f kj79 a0_0 a0_1 l0_2).bind fun bt809 => ((laws_toRec.f a1_0 a1_1 a1_2 a1_3 a1_4 a1_5 a1_6 a1_7).bind fun bt814 => ((impl_RecDo.f kj79 bt809.1 bt809.2.1 bt809.2.2 bt814.1 bt814.2.1 bt814.2.2.1 bt814.2.2.2.1 bt814.2.2.2.2.1 bt814.2.2.2.2.2.1 bt814.2.2.2.2.2.2.1 bt814.2.2.2.2.2.2.2 a2).bind fun bt822 => ((laws_eqPage.f kj79 bt822.1 bt822.2.1 bt822.2.2.1 t768 t769 t770).bind fun t829 => (if t829 = true then (laws_FnExactRecDo.j2 kj79 t806 (bt822.2.2.2 != t773) t789 t790 t807) else (laws_FnExactRecDo.j2 kj79 t806 true t789 t790 t807)))))) else (some false))) = some r := H
         have A116 := az A1160
         clear A1160
         by_cases c117 : t808 < 0
         ·rw [if_pos c117] at H
          have c117b0 : decide (t808 < 0) = true := decide_eq_true c117
          clear c117
          obtain rfl := Option.some.inj H
          exact absurd hT_.out (by simp)
         ·rw [if_neg c117] at H
          have c117b0 : decide (t808 < 0) = false := decide_eq_false c117
          clear c117
          by_cases c126 : t808 = t806
          ·rw [if_pos c126] at H
           have c126b0 : (t808 == t806) = true := beq_iff_eq.mpr c126
           have c126b1 : (t808 != t806) = false := bne_eq_false_iff_eq.mpr c126
           clear c126
           replace H := Option.bind_eq_some_iff.mp H
           obtain ⟨⟨t809, t810, t811⟩, A1270, H⟩ := H
           replace H : ((laws_toRec.f a1_0 a1_1 a1_2 a1_3 a1_4 a1_5 a1_6 a1_7).bind fun bt814 => ((impl_RecDo.f kj79 t809 t810 t811 bt814.1 bt814.2.1 bt814.2.2.1 bt814.2.2.2.1 bt814.2.2.2.2.1 bt814.2.2.2.2.2.1 bt814.2.2.2.2.2.2.1 bt814.2.2.2.2.2.2.2 a2).bind fun bt822 => ((laws_eqPage.f kj79 bt822.1 bt822.2.1 bt822.2.2.1 t768 t769 t770).bind fun t829 => (if t829 = true then (laws_FnExactRecDo.j2 kj79 t806 (bt822.2.2.2 != t773) t789 t790 t807) else (laws_FnExactRecDo.j2 kj79 t806 true t789 t790 t807))))) = some r := H
           have A127 := az A1270
           clear A1270
           replace H := Option.bind_eq_some_iff.mp H
           obtain ⟨⟨t814, t815, t816, t817, t818, t819, t820, t821⟩, A1280, H⟩ := H
           replace H : ((impl_RecDo.f kj79 t809 t810 t811 t814 t815 t816 t817 t818 t819 t820 t821 a2).bind fun bt822 => ((laws_eqPage.f kj79 bt822.1 bt822.2.1 bt822.2.2.1 t768 t769 t770).bind fun t829 => (if t829 = true then (laws_FnExactRecDo.j2 kj79 t806 (bt822.2.2.2 != t773) t789 t790 t807) else (laws_FnExactRecDo.j2 kj79 t806 true t789 t790 t807)))) = some r := H
           have A128 := az A1280
           clear A1280
           replace H := Option.bind_eq_some_iff.mp H
           obtain ⟨⟨t822, t823, t824, t827⟩, A1290, H⟩ := H
           replace H : ((laws_eqPage.f kj79 t822 t823 t824 t768 t769 t770).bind fun t829 => (if t829 = true then (laws_FnExactRecDo.j2 kj79 t806 (t827 != t773) t789 t790 t807) else (laws_FnExactRecDo.j2 kj79 t806 true t789 t790 t807))) = some r := H
           have A129 := az A1290
           clear A1290
           have HC130 := az H
           clear H
           have hnb131 := NB795_752.out
           have hnc131 := NB752_795.out
           have hnb132 := NB795_753.out
           have hnc132 := NB753_795.out
           have hnb133 := NB795_774.out
           have hnc133 := NB774_795.out
           have hnb134 := NB795_780.out
           have hnc134 := NB780_795.out
           obtain ⟨hcz135_0, hcz135_1, hcz135_2⟩ := cz3 BK795
           obtain ⟨hfz135_0, hfz135_1, hfz135_2⟩ := fz3 BK795
           try go_wp2_with (first | ((with_reducible refine gate_callee (f := 54) rfl ?_); refine goesL_ (some 74) rfl rfl Try.func54 (by kernel_rfl) rfl #[.agg #[.int .i64 t789, .int .i64 t790, .slice Ao51 t791.length co51], .int .i64 1] rfl (by (try simp only [List.map_toArray, List.map_cons, List.map_nil]); first | done | rfl | (simp only [List.length_drop, List.length_take]; rfl)) ?_; (with_reducible refine (laws_markPage.calls kj79 t789 t790 (fun k_ => some k_ = (.slice Ao51 t791.length co51 : Value).ownBlock) (.slice Ao51 t791.length co51) t791 1 t806 t807 w _ ?side1 ?side2 A115.out).mono ?_); (case side1 => repeat (first | (with_reducible first | exact HB.out | apply wa | apply wn | apply wd | refine ws ‹_› ?_) | exact HB.out)); (case side2 => exact Kd.R_tight rfl HO_796002.out); rintro e w136 ⟨rfl, hy0, hb, hkp⟩; refine ⟨_, rfl, ?_⟩; replace HO_775002 := az (Kd.R_mono (ok' := fun k_ => some k_ ≠ (.slice Ao42 t804.length co42 : Value).ownBlock ∧ some k_ ≠ (.slice Ao51 t791.length co51 : Value).ownBlock) (Kd.R_keptB (HO_775002.out) hkp (fun k_ hk_ hs_ => (hk_.2) hs_)) (fun k_ hk_ => ⟨hk_.1.1, hk_.1.2⟩)); replace HO_781002 := az (Kd.R_mono (ok' := fun k_ => some k_ ≠ (.slice Ao32 t770.length co32 : Value).ownBlock ∧ some k_ ≠ (.slice Ao51 t791.length co51 : Value).ownBlock) (Kd.R_keptB (HO_781002.out) hkp (fun k_ hk_ hs_ => (hk_.2) hs_)) (fun k_ hk_ => ⟨hk_.1.1, hk_.1.2⟩)); replace BK752 := az (blk_kept (by (with_reducible repeat (first | apply bn | apply bd | apply ba)); exact BK752.out) hkp (fun hs_ => (fun e_ => (Kd.R_ne HO_796002.out BK752.out (by decide)) e_) hs_)); replace BK753 := az (blk_kept (by (with_reducible repeat (first | apply bn | apply bd | apply ba)); exact BK753.out) hkp (fun hs_ => (fun e_ => (Kd.R_ne HO_796002.out BK753.out (by decide)) e_) hs_)); replace BK774 := az (blk_kept (by (with_reducible repeat (first | apply bn | apply bd | apply ba)); exact BK774.out) hkp (fun hs_ => (fun e_ => (Kd.R_ne HO_796002.out BK774.out (by decide)) e_) hs_)); replace BK780 := az (blk_kept (by (with_reducible repeat (first | apply bn | apply bd | apply ba)); exact BK780.out) hkp (fun hs_ => (fun e_ => (Kd.R_ne HO_796002.out BK780.out (by decide)) e_) hs_)); replace BK795 := az (blk_kept (by (with_reducible repeat (first | apply bn | apply bd | apply ba)); exact BK795.out) hkp (fun hs_ => (fun e_ => (Kd.R_ne HO_796002.out BK795.out (by decide)) e_) hs_)); replace HO_796002 := az (Kd.R_reok rfl hy0 (fun k_ e_ => HO_796002.out.1 k_ e_)); replace HB := az (hb); (try clear hb); (try clear hkp); (try clear hy0); obtain ⟨hcz137_0, hcz137_1, hcz137_2⟩ := cz3 BK795; have hfz137_0 := blk_frozen BK795.out 0; have hfz137_1 := blk_frozen BK795.out 1; have hfz137_2 := blk_frozen BK795.out 2) | ((with_reducible refine gate_callee (f := 55) rfl ?_); refine goesL_ (some 77) rfl rfl Try.func55 (by kernel_rfl) rfl #[.agg #[.int .i64 t789, .int .i64 t790, .slice Ao51 t807.length co51], .int .i64 1] rfl (by (try simp only [List.map_toArray, List.map_cons, List.map_nil]); first | done | (rw [show t807.length = t791.length from (Kd.R_reads' HO_796002.out).1.symm] <;> rfl) | rfl | (simp only [List.length_drop, List.length_take]; rfl)) ?_; (with_reducible refine (laws_heldPage.calls kj79 t789 t790 _ _ t807 1 t808 _ ?side1 ?side2 A116.out).mono ?_); (case side1 => repeat (first | exact (Kd.R_reads' HO_796002.out).2.2 | (with_reducible refine Kd.C_alloc ?_ _) | (with_reducible refine Kd.C_drewN ?_ _) | (with_reducible refine Kd.C_drew ?_))); (case side2 => rw [show t807.length = t791.length from (Kd.R_reads' HO_796002.out).1.symm]; exact (Kd.R_reads' HO_796002.out).2.1); rintro e w138 ⟨rfl, hb⟩; refine ⟨_, rfl, ?_⟩; replace HO_775002 := az (Kd.R_below (by (with_reducible repeat (first | apply Kd.R_alloc | apply Kd.R_drewN | apply Kd.R_drew)); exact HO_775002.out) hb); replace HO_781002 := az (Kd.R_below (by (with_reducible repeat (first | apply Kd.R_alloc | apply Kd.R_drewN | apply Kd.R_drew)); exact HO_781002.out) hb); replace HO_796002 := az (Kd.R_below (by (with_reducible repeat (first | apply Kd.R_alloc | apply Kd.R_drewN | apply Kd.R_drew)); exact HO_796002.out) hb); replace BK752 := bb BK752 (fun h => by (with_reducible repeat (first | apply bn | apply bd | apply ba)); exact h) hb; replace BK753 := bb BK753 (fun h => by (with_reducible repeat (first | apply bn | apply bd | apply ba)); exact h) hb; replace BK774 := bb BK774 (fun h => by (with_reducible repeat (first | apply bn | apply bd | apply ba)); exact h) hb; replace BK780 := bb BK780 (fun h => by (with_reducible repeat (first | apply bn | apply bd | apply ba)); exact h) hb; replace BK795 := bb BK795 (fun h => by (with_reducible repeat (first | apply bn | apply bd | apply ba)); exact h) hb; replace HB := az (below_step (by repeat (first | (with_reducible first | exact HB.out | apply wa | apply wn | apply wd | refine ws ‹_› ?_) | exact HB.out)) hb); (try clear hb); (try clear hb2); (try clear hk); (try clear hi)))
           replace HO_775002 := az (Kd.R_drew HO_775002.out)
           replace HO_781002 := az (Kd.R_drew HO_781002.out)
           replace HO_796002 := az (Kd.R_drew HO_796002.out)
           replace BK752 := az (blk_drew BK752.out)
           replace BK753 := az (blk_drew BK753.out)
           replace BK774 := az (blk_drew BK774.out)
           replace BK780 := az (blk_drew BK780.out)
           replace BK795 := az (blk_drew BK795.out)
           replace HB := az (wd HB.out)
           refine start_ (n := 12) (S := fun w' => w'.cell? ⟨gb752, 0, none⟩ = some (.int .i64 a0_0) ∧ w'.cell? ⟨gb752, 1, none⟩ = some (.int .i64 a0_1) ∧ w'.cell? ⟨gb752, 2, none⟩ = some (.slice A0_2 l0_2.length c0_2) ∧ w'.cell? ⟨gb753, 0, none⟩ = some (.int .i64 a1_0) ∧ w'.cell? ⟨gb753, 1, none⟩ = some (.int .i64 a1_1) ∧ w'.cell? ⟨gb753, 2, none⟩ = some (.int .i64 a1_2) ∧ w'.cell? ⟨gb753, 3, none⟩ = some (.int .i64 a1_3) ∧ w'.cell? ⟨gb753, 4, none⟩ = some (.int .i64 a1_4) ∧ w'.cell? ⟨gb753, 5, none⟩ = some (.int .i64 a1_5) ∧ w'.cell? ⟨gb753, 6, none⟩ = some (.int .i64 a1_6) ∧ w'.cell? ⟨gb753, 7, none⟩ = some (.int .i64 a1_7)) (ds := []) #[false, false, false, false, false, false, false, false, false, false, false, false] (by kernel_rfl) rfl rfl ⟨bt BK752 rfl, bt BK752 rfl, bt BK752 rfl, bt BK753 rfl, bt BK753 rfl, bt BK753 rfl, bt BK753 rfl, bt BK753 rfl, bt BK753 rfl, bt BK753 rfl, bt BK753 rfl⟩ (fun hHeld => ?_); refine with_tabW laws_FnExactRecDo.tab24 laws_FnExactRecDo.bits24 (fun HT_ HW_ => ?_)
           generalize w138.drew = w139 at HO_775002 HO_781002 HO_796002 BK752 BK753 BK774 BK780 BK795 HB hHeld ⊢
           refine pure_ (i := 4) (N := some 88) (v := ?_) (a' := ?_) #[false, false, false, false, true, false, false, false, false, false, false, false] rfl rfl (any_of HT_.out (by kernel_rfl)) (fun _ _ _ h => h) (Or.inl ⟨by rfl, ?_⟩) ?_ ?_
           rotate_left
           ·intro w'
            go_simp
            with_reducible rfl
           rotate_left
           ·simp only [Act.put, List.setIfInBounds_toArray, List.set_cons_zero, List.set_cons_succ, i64_w, i32_w]
            rfl
           refine take_ (i := 0) (N := some 84) (v := ?_) (a' := ?_) #[true, false, false, false, true, false, false, false, false, false, false, false] rfl rfl (take_ofW HT_.out HW_.out (by kernel_rfl)) (fun _ _ _ h => h) (Or.inl ⟨by rfl, ?_⟩) hHeld ?_ ?_
           rotate_left
           ·rintro w' ⟨s0, s1, s2, s3, s4, s5, s6, s7, s8, s9, s10⟩
            go_simp
            with_reducible rfl
           rotate_left
           ·simp only [Act.put, List.setIfInBounds_toArray, List.set_cons_zero, List.set_cons_succ, i64_w, i32_w]
            rfl
           refine take_ (i := 2) (N := some 86) (v := ?_) (a' := ?_) #[true, false, true, false, true, false, false, false, false, false, false, false] rfl rfl (take_ofW HT_.out HW_.out (by kernel_rfl)) (fun _ _ _ h => h) (Or.inl ⟨by rfl, ?_⟩) hHeld ?_ ?_
           rotate_left
           ·rintro w' ⟨s0, s1, s2, s3, s4, s5, s6, s7, s8, s9, s10⟩
            go_simp
            with_reducible rfl
           rotate_left
           ·simp only [Act.put, List.setIfInBounds_toArray, List.set_cons_zero, List.set_cons_succ, i64_w, i32_w]
            rfl
           refine join_ (σ := Value × Value × Nat) 2 #[true, true, true, true, true, true, true, true, true, true, false, false] (fun s_ => [(85, .agg #[.int .i64 t809, .int .i64 t810, s_.1]), (87, .agg #[.int .i64 t814, .int .i64 t815, .int .i64 t816, .int .i64 t817, .int .i64 t818, .int .i64 t819, .int .i64 t820, .int .i64 t821]), (89, .tuple #[.agg #[.int .i64 t822, .int .i64 t823, s_.2.1], .bool t827]), (16, .pointer (some ⟨s_.2.2, 0, none⟩)), (83, .tuple #[.agg #[.int .i64 t822, .int .i64 t823, s_.2.1], .bool t827]), (90, .agg #[.int .i64 t822, .int .i64 t823, s_.2.1]), (91, .bool t827)]) (fun s_ w' => (w'.cell? ⟨gb752, 0, none⟩ = some (.int .i64 a0_0) ∧ w'.cell? ⟨gb752, 1, none⟩ = some (.int .i64 a0_1) ∧ w'.cell? ⟨gb752, 2, none⟩ = some (.slice A0_2 l0_2.length c0_2) ∧ w'.cell? ⟨gb753, 0, none⟩ = some (.int .i64 a1_0) ∧ w'.cell? ⟨gb753, 1, none⟩ = some (.int .i64 a1_1) ∧ w'.cell? ⟨gb753, 2, none⟩ = some (.int .i64 a1_2) ∧ w'.cell? ⟨gb753, 3, none⟩ = some (.int .i64 a1_3) ∧ w'.cell? ⟨gb753, 4, none⟩ = some (.int .i64 a1_4) ∧ w'.cell? ⟨gb753, 5, none⟩ = some (.int .i64 a1_5) ∧ w'.cell? ⟨gb753, 6, none⟩ = some (.int .i64 a1_6) ∧ w'.cell? ⟨gb753, 7, none⟩ = some (.int .i64 a1_7)) ∧ (Kd.R (Kd.int .i64) 3 w' w.heap.size (fun k_ => some k_ ≠ (s_.2.1 : Value).ownBlock ∧ some k_ ≠ (.slice Ao32 t770.length co32 : Value).ownBlock ∧ some k_ ≠ (.slice Ao42 t804.length co42 : Value).ownBlock ∧ some k_ ≠ (.slice Ao51 t791.length co51 : Value).ownBlock) s_.1 t811) ∧ (Kd.R (Kd.int .i64) 3 w' w.heap.size (fun k_ => some k_ ≠ (s_.1 : Value).ownBlock ∧ some k_ ≠ (.slice Ao32 t770.length co32 : Value).ownBlock ∧ some k_ ≠ (.slice Ao42 t804.length co42 : Value).ownBlock ∧ some k_ ≠ (.slice Ao51 t791.length co51 : Value).ownBlock) s_.2.1 t824) ∧ (Kd.R (Kd.int .i64) 3 w' w.heap.size (fun k_ => some k_ ≠ (s_.1 : Value).ownBlock ∧ some k_ ≠ (s_.2.1 : Value).ownBlock ∧ some k_ ≠ (.slice Ao42 t804.length co42 : Value).ownBlock ∧ some k_ ≠ (.slice Ao51 t791.length co51 : Value).ownBlock) (.slice Ao32 t770.length co32) t770) ∧ (Kd.R (Kd.int .i64) 3 w' w.heap.size (fun k_ => some k_ ≠ (s_.1 : Value).ownBlock ∧ some k_ ≠ (s_.2.1 : Value).ownBlock ∧ some k_ ≠ (.slice Ao32 t770.length co32 : Value).ownBlock ∧ some k_ ≠ (.slice Ao51 t791.length co51 : Value).ownBlock) (.slice Ao42 t804.length co42) t804) ∧ (Kd.R (Kd.int .i64) 3 w' w.heap.size (fun k_ => some k_ ≠ (s_.1 : Value).ownBlock ∧ some k_ ≠ (s_.2.1 : Value).ownBlock ∧ some k_ ≠ (.slice Ao32 t770.length co32 : Value).ownBlock ∧ some k_ ≠ (.slice Ao42 t804.length co42 : Value).ownBlock) (.slice Ao51 t791.length co51) t807) ∧ (w'.heap[gb752]? = some (.cells #[.int .i64 a0_0, .int .i64 a0_1, .slice A0_2 l0_2.length c0_2] 57 (0, 0))) ∧ (w'.heap[gb753]? = some (.cells #[.int .i64 a1_0, .int .i64 a1_1, .int .i64 a1_2, .int .i64 a1_3, .int .i64 a1_4, .int .i64 a1_5, .int .i64 a1_6, .int .i64 a1_7] 58 (0, 0))) ∧ (w'.heap[gb774]? = some (.cells #[.int .i64 t768, .int .i64 t769, .slice Ao32 t770.length co32] 25 (0, 0))) ∧ (w'.heap[gb780]? = some (.cells #[.int .i64 t775, .int .i64 t776, .slice Ao42 t804.length co42] 25 (0, 0))) ∧ (w'.heap[gb795]? = some (.cells #[.int .i64 t789, .int .i64 t790, .slice Ao51 t791.length co51] 25 (0, 0))) ∧ (w'.heap[s_.2.2]? = some (.cells #[.int .i64 0, .int .i64 0, .slice none 0 0] 25 (0, 0))) ∧ (w.heap.size ≤ s_.2.2) ∧ (w.heap.size ≤ s_.2.2) ∧ (gb752 ≠ s_.2.2) ∧ (s_.2.2 ≠ gb752) ∧ (gb753 ≠ s_.2.2) ∧ (s_.2.2 ≠ gb753) ∧ (gb774 ≠ s_.2.2) ∧ (s_.2.2 ≠ gb774) ∧ (gb780 ≠ s_.2.2) ∧ (s_.2.2 ≠ gb780) ∧ (gb795 ≠ s_.2.2) ∧ (s_.2.2 ≠ gb795) ∧ (Below w.heap.size w w')) ?_ ?_
           rotate_left
           ·intro hCont
            refine two_ (i := 1) (j := 9) (Ni := some 85) (Nj := some 16) #[true, true, true, false, true, false, false, false, false, false, false, false] #[true, false, true, false, true, false, false, false, false, true, false, false] rfl rfl rfl rfl (two_of HT_.out (by kernel_rfl)) (by decide) (by decide) (fun K hK => ?_) (fun K hK => ?_)
            ·skip
             refine goes_ Try.func51 (by kernel_rfl) rfl #[.agg #[.int .i64 a0_0, .int .i64 a0_1, .slice A0_2 l0_2.length c0_2]] (by rfl) rfl rfl (by (try simp only [List.map_toArray, List.map_cons, List.map_nil]); first | done | rfl | (simp only [List.length_drop, List.length_take]; rfl)) ?_
             with_reducible refine (laws_toPage.calls kj79 a0_0 a0_1 _ _ l0_2 t809 t810 t811 _ ?side1 ?side2 A127.out).mono ?_
             (case side1 => repeat (first | exact (Kd.C_below HR0_2.out HB.out) | (with_reducible refine Kd.C_alloc ?_ _) | (with_reducible refine Kd.C_drewN ?_ _) | (with_reducible refine Kd.C_drew ?_)))
             (case side2 => exact HC0_2.out)
             rintro e w140 ⟨v812, rfl, ho0, hb⟩
             refine ⟨_, rfl, ?_⟩
             have HO813 := az (Kd.R_lower (Kd.R_new' (Kd.R_new' (Kd.R_new' ho0 (Kd.R_lt (by (with_reducible repeat (first | apply Kd.R_alloc | apply Kd.R_drewN | apply Kd.R_drew)); exact HO_775002.out))) (Kd.R_lt (by (with_reducible repeat (first | apply Kd.R_alloc | apply Kd.R_drewN | apply Kd.R_drew)); exact HO_781002.out))) (Kd.R_lt (by (with_reducible repeat (first | apply Kd.R_alloc | apply Kd.R_drewN | apply Kd.R_drew)); exact HO_796002.out))) (below_size (by repeat (first | (with_reducible first | exact HB.out | apply wa | apply wn | apply wd | refine ws ‹_› ?_) | exact HB.out))))
             replace HO_775002 := az (Kd.R_elder' (by (with_reducible repeat (first | apply Kd.R_alloc | apply Kd.R_drewN | apply Kd.R_drew)); exact HO_775002.out) (Kd.R_base ho0) hb)
             replace HO_781002 := az (Kd.R_elder' (by (with_reducible repeat (first | apply Kd.R_alloc | apply Kd.R_drewN | apply Kd.R_drew)); exact HO_781002.out) (Kd.R_base ho0) hb)
             replace HO_796002 := az (Kd.R_elder' (by (with_reducible repeat (first | apply Kd.R_alloc | apply Kd.R_drewN | apply Kd.R_drew)); exact HO_796002.out) (Kd.R_base ho0) hb)
             replace BK752 := bb BK752 (fun h => by (with_reducible repeat (first | apply bn | apply bd | apply ba)); exact h) hb
             replace BK753 := bb BK753 (fun h => by (with_reducible repeat (first | apply bn | apply bd | apply ba)); exact h) hb
             replace BK774 := bb BK774 (fun h => by (with_reducible repeat (first | apply bn | apply bd | apply ba)); exact h) hb
             replace BK780 := bb BK780 (fun h => by (with_reducible repeat (first | apply bn | apply bd | apply ba)); exact h) hb
             replace BK795 := bb BK795 (fun h => by (with_reducible repeat (first | apply bn | apply bd | apply ba)); exact h) hb
             replace HB := az (below_step (by repeat (first | (with_reducible first | exact HB.out | apply wa | apply wn | apply wd | refine ws ‹_› ?_) | exact HB.out)) hb)
             (try clear hb);(try clear hb2);(try clear hk);(try clear hi);(try clear ho0)
             refine hK.out _ _ ⟨bt BK752 rfl, bt BK752 rfl, bt BK752 rfl, bt BK753 rfl, bt BK753 rfl, bt BK753 rfl, bt BK753 rfl, bt BK753 rfl, bt BK753 rfl, bt BK753 rfl, bt BK753 rfl⟩ (fun hHeld => ?_)
             clear hK K
             refine norm_ (a' := ?_) ?_ ?_
             rotate_left
             ·show Act.put _ (some 85) _ = _
              simp only [Act.put, List.setIfInBounds_toArray, List.set_cons_zero, List.set_cons_succ, i64_w, i32_w]
              rfl
             refine two_ (i := 3) (j := 9) (Ni := some 87) (Nj := some 16) #[true, true, true, true, true, false, false, false, false, false, false, false] #[true, true, true, false, true, false, false, false, false, true, false, false] rfl rfl rfl rfl (two_of HT_.out (by kernel_rfl)) (by decide) (by decide) (fun K hK => ?_) (fun K hK => ?_)
             ·skip
              refine goes_ Try.func52 (by kernel_rfl) rfl #[.agg #[.int .i64 a1_0, .int .i64 a1_1, .int .i64 a1_2, .int .i64 a1_3, .int .i64 a1_4, .int .i64 a1_5, .int .i64 a1_6, .int .i64 a1_7]] (by rfl) rfl rfl (by (try simp only [List.map_toArray, List.map_cons, List.map_nil]); first | done | rfl | (simp only [List.length_drop, List.length_take]; rfl)) ?_
              with_reducible refine (laws_toRec.calls a1_0 a1_1 a1_2 a1_3 a1_4 a1_5 a1_6 a1_7 t814 t815 t816 t817 t818 t819 t820 t821 _ A128.out).mono ?_
              rintro e w141 ⟨rfl, hb⟩
              refine ⟨_, rfl, ?_⟩
              replace HO_775002 := az (Kd.R_below (by (with_reducible repeat (first | apply Kd.R_alloc | apply Kd.R_drewN | apply Kd.R_drew)); exact HO_775002.out) hb)
              replace HO_781002 := az (Kd.R_below (by (with_reducible repeat (first | apply Kd.R_alloc | apply Kd.R_drewN | apply Kd.R_drew)); exact HO_781002.out) hb)
              replace HO_796002 := az (Kd.R_below (by (with_reducible repeat (first | apply Kd.R_alloc | apply Kd.R_drewN | apply Kd.R_drew)); exact HO_796002.out) hb)
              replace HO813 := az (Kd.R_below (by (with_reducible repeat (first | apply Kd.R_alloc | apply Kd.R_drewN | apply Kd.R_drew)); exact HO813.out) hb)
              replace BK752 := bb BK752 (fun h => by (with_reducible repeat (first | apply bn | apply bd | apply ba)); exact h) hb
              replace BK753 := bb BK753 (fun h => by (with_reducible repeat (first | apply bn | apply bd | apply ba)); exact h) hb
              replace BK774 := bb BK774 (fun h => by (with_reducible repeat (first | apply bn | apply bd | apply ba)); exact h) hb
              replace BK780 := bb BK780 (fun h => by (with_reducible repeat (first | apply bn | apply bd | apply ba)); exact h) hb
              replace BK795 := bb BK795 (fun h => by (with_reducible repeat (first | apply bn | apply bd | apply ba)); exact h) hb
              replace HB := az (below_step (by repeat (first | (with_reducible first | exact HB.out | apply wa | apply wn | apply wd | refine ws ‹_› ?_) | exact HB.out)) hb)
              (try clear hb);(try clear hb2);(try clear hk);(try clear hi)
              obtain ⟨Ao142, co142, eo142⟩ := Kd.R_slice HO813.out
              (first | subst eo142 | (injection eo142 with f1_ f2_ f3_; have f4_ := f1_.symm; have f5_ := f3_.symm; clear f1_ f2_ f3_; subst f4_; subst f5_))
              refine hK.out _ _ ⟨bt BK752 rfl, bt BK752 rfl, bt BK752 rfl, bt BK753 rfl, bt BK753 rfl, bt BK753 rfl, bt BK753 rfl, bt BK753 rfl, bt BK753 rfl, bt BK753 rfl, bt BK753 rfl⟩ (fun hHeld => ?_)
              clear hK K
              refine norm_ (a' := ?_) ?_ ?_
              rotate_left
              ·show Act.put _ (some 87) _ = _
               simp only [Act.put, List.setIfInBounds_toArray, List.set_cons_zero, List.set_cons_succ, i64_w, i32_w]
               rfl
              refine two_ (i := 5) (j := 9) (Ni := some 89) (Nj := some 16) #[true, true, true, true, true, true, false, false, false, false, false, false] #[true, true, true, true, true, false, false, false, false, true, false, false] rfl rfl rfl rfl (two_of HT_.out (by kernel_rfl)) (by decide) (by decide) (fun K hK => ?_) (fun K hK => ?_)
              ·skip
               refine goes_ Try.func42 (by kernel_rfl) rfl #[.agg #[.int .i64 t809, .int .i64 t810, .slice Ao142 t811.length co142], .agg #[.int .i64 t814, .int .i64 t815, .int .i64 t816, .int .i64 t817, .int .i64 t818, .int .i64 t819, .int .i64 t820, .int .i64 t821], .int .i64 a2] (by rfl) rfl rfl (by (try simp only [List.map_toArray, List.map_cons, List.map_nil]); first | done | rfl | (simp only [List.length_drop, List.length_take]; rfl)) ?_
               with_reducible refine (impl_RecDo.calls kj79 t809 t810 _ _ t811 t814 t815 t816 t817 t818 t819 t820 t821 a2 t822 t823 t824 t827 _ ?side1 ?side2 A129.out).mono ?_
               (case side1 => repeat (first | exact (Kd.R_reads' HO813.out).2.2 | (with_reducible refine Kd.C_alloc ?_ _) | (with_reducible refine Kd.C_drewN ?_ _) | (with_reducible refine Kd.C_drew ?_)))
               (case side2 => exact (Kd.R_reads' HO813.out).2.1)
               rintro e w143 ⟨v825, rfl, ho0, hb⟩
               refine ⟨_, rfl, ?_⟩
               have HO826 := az (Kd.R_lower (Kd.R_new' (Kd.R_new' (Kd.R_new' (Kd.R_new' ho0 (Kd.R_lt (by (with_reducible repeat (first | apply Kd.R_alloc | apply Kd.R_drewN | apply Kd.R_drew)); exact HO_775002.out))) (Kd.R_lt (by (with_reducible repeat (first | apply Kd.R_alloc | apply Kd.R_drewN | apply Kd.R_drew)); exact HO_781002.out))) (Kd.R_lt (by (with_reducible repeat (first | apply Kd.R_alloc | apply Kd.R_drewN | apply Kd.R_drew)); exact HO_796002.out))) (Kd.R_lt (by (with_reducible repeat (first | apply Kd.R_alloc | apply Kd.R_drewN | apply Kd.R_drew)); exact HO813.out))) (below_size (by repeat (first | (with_reducible first | exact HB.out | apply wa | apply wn | apply wd | refine ws ‹_› ?_) | exact HB.out))))
               replace HO_775002 := az (Kd.R_elder' (by (with_reducible repeat (first | apply Kd.R_alloc | apply Kd.R_drewN | apply Kd.R_drew)); exact HO_775002.out) (Kd.R_base ho0) hb)
               replace HO_781002 := az (Kd.R_elder' (by (with_reducible repeat (first | apply Kd.R_alloc | apply Kd.R_drewN | apply Kd.R_drew)); exact HO_781002.out) (Kd.R_base ho0) hb)
               replace HO_796002 := az (Kd.R_elder' (by (with_reducible repeat (first | apply Kd.R_alloc | apply Kd.R_drewN | apply Kd.R_drew)); exact HO_796002.out) (Kd.R_base ho0) hb)
               replace HO813 := az (Kd.R_elder' (by (with_reducible repeat (first | apply Kd.R_alloc | apply Kd.R_drewN | apply Kd.R_drew)); exact HO813.out) (Kd.R_base ho0) hb)
               replace BK752 := bb BK752 (fun h => by (with_reducible repeat (first | apply bn | apply bd | apply ba)); exact h) hb
               replace BK753 := bb BK753 (fun h => by (with_reducible repeat (first | apply bn | apply bd | apply ba)); exact h) hb
               replace BK774 := bb BK774 (fun h => by (with_reducible repeat (first | apply bn | apply bd | apply ba)); exact h) hb
               replace BK780 := bb BK780 (fun h => by (with_reducible repeat (first | apply bn | apply bd | apply ba)); exact h) hb
               replace BK795 := bb BK795 (fun h => by (with_reducible repeat (first | apply bn | apply bd | apply ba)); exact h) hb
               replace HB := az (below_step (by repeat (first | (with_reducible first | exact HB.out | apply wa | apply wn | apply wd | refine ws ‹_› ?_) | exact HB.out)) hb)
               (try clear hb);(try clear hb2);(try clear hk);(try clear hi);(try clear ho0)
               refine hK.out _ _ ⟨bt BK752 rfl, bt BK752 rfl, bt BK752 rfl, bt BK753 rfl, bt BK753 rfl, bt BK753 rfl, bt BK753 rfl, bt BK753 rfl, bt BK753 rfl, bt BK753 rfl, bt BK753 rfl⟩ (fun hHeld => ?_)
               clear hK K
               refine norm_ (a' := ?_) ?_ ?_
               rotate_left
               ·show Act.put _ (some 89) _ = _
                simp only [Act.put, List.setIfInBounds_toArray, List.set_cons_zero, List.set_cons_succ, i64_w, i32_w]
                rfl
               refine pure_ (i := 6) (N := some 83) (v := ?_) (a' := ?_) #[true, true, true, true, true, true, true, false, false, false, false, false] rfl rfl (any_of HT_.out (by kernel_rfl)) (fun _ _ _ h => h) (Or.inl ⟨by rfl, ?_⟩) ?_ ?_
               rotate_left
               ·intro w'
                go_simp
                with_reducible rfl
               rotate_left
               ·simp only [Act.put, List.setIfInBounds_toArray, List.set_cons_zero, List.set_cons_succ, i64_w, i32_w]
                rfl
               refine pure_ (i := 7) (N := some 90) (v := ?_) (a' := ?_) #[true, true, true, true, true, true, true, true, false, false, false, false] rfl rfl (any_of HT_.out (by kernel_rfl)) (fun _ _ _ h => h) (Or.inl ⟨by rfl, ?_⟩) ?_ ?_
               rotate_left
               ·intro w'
                go_simp
                with_reducible rfl
               rotate_left
               ·simp only [Act.put, List.setIfInBounds_toArray, List.set_cons_zero, List.set_cons_succ, i64_w, i32_w]
                rfl
               refine pure_ (i := 8) (N := some 91) (v := ?_) (a' := ?_) #[true, true, true, true, true, true, true, true, true, false, false, false] rfl rfl (any_of HT_.out (by kernel_rfl)) (fun _ _ _ h => h) (Or.inl ⟨by rfl, ?_⟩) ?_ ?_
               rotate_left
               ·intro w'
                go_simp
                with_reducible rfl
               rotate_left
               ·simp only [Act.put, List.setIfInBounds_toArray, List.set_cons_zero, List.set_cons_succ, i64_w, i32_w]
                rfl
               refine one_ (i := 9) (N := some 16) #[true, true, true, true, true, true, true, true, true, true, false, false] rfl rfl (one_of HT_.out (by kernel_rfl)) (by decide) (fun K hK => ?_)
               refine box_step ?hg (N := 16) ?hd (cs := #[.int .i64 0, .int .i64 0, .slice none 0 0]) (t := 25) ?hr ?_; (case hd => rfl); (case hg => rfl); (case hr => first | (go_simp; done) | (go_simp; rfl))
               intro gb828 hg w144 hbox hb
               replace HO_775002 := az (Kd.R_below (by (with_reducible repeat (first | apply Kd.R_alloc | apply Kd.R_drewN | apply Kd.R_drew)); exact HO_775002.out) hb)
               replace HO_781002 := az (Kd.R_below (by (with_reducible repeat (first | apply Kd.R_alloc | apply Kd.R_drewN | apply Kd.R_drew)); exact HO_781002.out) hb)
               replace HO_796002 := az (Kd.R_below (by (with_reducible repeat (first | apply Kd.R_alloc | apply Kd.R_drewN | apply Kd.R_drew)); exact HO_796002.out) hb)
               replace HO813 := az (Kd.R_below (by (with_reducible repeat (first | apply Kd.R_alloc | apply Kd.R_drewN | apply Kd.R_drew)); exact HO813.out) hb)
               replace HO826 := az (Kd.R_below (by (with_reducible repeat (first | apply Kd.R_alloc | apply Kd.R_drewN | apply Kd.R_drew)); exact HO826.out) hb)
               have BK828 := az (hbox)
               have GW828 := az ((by rw [hg]; exact (below_size (by repeat (first | (with_reducible first | exact HB.out | apply wa | apply wn | apply wd | refine ws ‹_› ?_) | exact HB.out))) : w.heap.size ≤ gb828))
               have GE828 := GW828
               replace HB := az (below_step (by repeat (first | (with_reducible first | exact HB.out | apply wa | apply wn | apply wd | refine ws ‹_› ?_) | exact HB.out)) hb)
               obtain ⟨NB752_828, NB828_752⟩ := nb BK752 hg (fun h => by (with_reducible repeat (first | apply bn | apply bd | apply ba)); exact h)
               replace BK752 := bb BK752 (fun h => by (with_reducible repeat (first | apply bn | apply bd | apply ba)); exact h) hb
               obtain ⟨NB753_828, NB828_753⟩ := nb BK753 hg (fun h => by (with_reducible repeat (first | apply bn | apply bd | apply ba)); exact h)
               replace BK753 := bb BK753 (fun h => by (with_reducible repeat (first | apply bn | apply bd | apply ba)); exact h) hb
               obtain ⟨NB774_828, NB828_774⟩ := nb BK774 hg (fun h => by (with_reducible repeat (first | apply bn | apply bd | apply ba)); exact h)
               replace BK774 := bb BK774 (fun h => by (with_reducible repeat (first | apply bn | apply bd | apply ba)); exact h) hb
               obtain ⟨NB780_828, NB828_780⟩ := nb BK780 hg (fun h => by (with_reducible repeat (first | apply bn | apply bd | apply ba)); exact h)
               replace BK780 := bb BK780 (fun h => by (with_reducible repeat (first | apply bn | apply bd | apply ba)); exact h) hb
               obtain ⟨NB795_828, NB828_795⟩ := nb BK795 hg (fun h => by (with_reducible repeat (first | apply bn | apply bd | apply ba)); exact h)
               replace BK795 := bb BK795 (fun h => by (with_reducible repeat (first | apply bn | apply bd | apply ba)); exact h) hb
               clear hb hbox hg
               refine hK.out _ _ ⟨bt BK752 rfl, bt BK752 rfl, bt BK752 rfl, bt BK753 rfl, bt BK753 rfl, bt BK753 rfl, bt BK753 rfl, bt BK753 rfl, bt BK753 rfl, bt BK753 rfl, bt BK753 rfl⟩ (fun hHeld => ?_)
               clear hK K
               refine norm_ (a' := ?_) ?_ ?_
               rotate_left
               ·show Act.put _ (some 16) _ = _
                simp only [Act.put, List.setIfInBounds_toArray, List.set_cons_zero, List.set_cons_succ, i64_w, i32_w]
                rfl
               exact norm_ (by simp only [putAll, Act.put, List.setIfInBounds_toArray, List.set_cons_zero, List.set_cons_succ]) (hCont (.slice Ao142 t811.length co142, v825, gb828) _ ⟨hHeld, (by (with_reducible repeat (first | apply Kd.R_alloc | apply Kd.R_drewN | apply Kd.R_drew)); exact Kd.R_mono HO813.out (fun _ hk => ⟨hk.2, ⟨hk.1.1.1.2, ⟨hk.1.1.2, hk.1.2⟩⟩⟩)), (by (with_reducible repeat (first | apply Kd.R_alloc | apply Kd.R_drewN | apply Kd.R_drew)); exact Kd.R_mono HO826.out (fun _ hk => ⟨hk.2, ⟨hk.1.1.1.2, ⟨hk.1.1.2, hk.1.2⟩⟩⟩)), (by (with_reducible repeat (first | apply Kd.R_alloc | apply Kd.R_drewN | apply Kd.R_drew)); exact Kd.R_mono HO_775002.out (fun _ hk => ⟨hk.1.2, ⟨hk.2, ⟨hk.1.1.1, hk.1.1.2⟩⟩⟩)), (by (with_reducible repeat (first | apply Kd.R_alloc | apply Kd.R_drewN | apply Kd.R_drew)); exact Kd.R_mono HO_781002.out (fun _ hk => ⟨hk.1.2, ⟨hk.2, ⟨hk.1.1.1, hk.1.1.2⟩⟩⟩)), (by (with_reducible repeat (first | apply Kd.R_alloc | apply Kd.R_drewN | apply Kd.R_drew)); exact Kd.R_mono HO_796002.out (fun _ hk => ⟨hk.1.2, ⟨hk.2, ⟨hk.1.1.1, hk.1.1.2⟩⟩⟩)), (by (with_reducible repeat (first | apply bn | apply bd | apply ba)); exact BK752.out), (by (with_reducible repeat (first | apply bn | apply bd | apply ba)); exact BK753.out), (by (with_reducible repeat (first | apply bn | apply bd | apply ba)); exact BK774.out), (by (with_reducible repeat (first | apply bn | apply bd | apply ba)); exact BK780.out), (by (with_reducible repeat (first | apply bn | apply bd | apply ba)); exact BK795.out), (by (with_reducible repeat (first | apply bn | apply bd | apply ba)); exact BK828.out), GW828.out, GE828.out, NB752_828.out, NB828_752.out, NB753_828.out, NB828_753.out, NB774_828.out, NB828_774.out, NB780_828.out, NB828_780.out, NB795_828.out, NB828_795.out, (by repeat (first | (with_reducible first | exact HB.out | apply wa | apply wn | apply wd | refine ws ‹_› ?_) | exact HB.out))⟩)
              ·skip
               refine box_step ?hg (N := 16) ?hd (cs := #[.int .i64 0, .int .i64 0, .slice none 0 0]) (t := 25) ?hr ?_; (case hd => rfl); (case hg => rfl); (case hr => first | (go_simp; done) | (go_simp; rfl))
               intro gb828 hg w142 hbox hb
               replace HO_775002 := az (Kd.R_below (by (with_reducible repeat (first | apply Kd.R_alloc | apply Kd.R_drewN | apply Kd.R_drew)); exact HO_775002.out) hb)
               replace HO_781002 := az (Kd.R_below (by (with_reducible repeat (first | apply Kd.R_alloc | apply Kd.R_drewN | apply Kd.R_drew)); exact HO_781002.out) hb)
               replace HO_796002 := az (Kd.R_below (by (with_reducible repeat (first | apply Kd.R_alloc | apply Kd.R_drewN | apply Kd.R_drew)); exact HO_796002.out) hb)
               replace HO813 := az (Kd.R_below (by (with_reducible repeat (first | apply Kd.R_alloc | apply Kd.R_drewN | apply Kd.R_drew)); exact HO813.out) hb)
               have BK828 := az (hbox)
               have GW828 := az ((by rw [hg]; exact (below_size (by repeat (first | (with_reducible first | exact HB.out | apply wa | apply wn | apply wd | refine ws ‹_› ?_) | exact HB.out))) : w.heap.size ≤ gb828))
               have GE828 := GW828
               replace HB := az (below_step (by repeat (first | (with_reducible first | exact HB.out | apply wa | apply wn | apply wd | refine ws ‹_› ?_) | exact HB.out)) hb)
               obtain ⟨NB752_828, NB828_752⟩ := nb BK752 hg (fun h => by (with_reducible repeat (first | apply bn | apply bd | apply ba)); exact h)
               replace BK752 := bb BK752 (fun h => by (with_reducible repeat (first | apply bn | apply bd | apply ba)); exact h) hb
               obtain ⟨NB753_828, NB828_753⟩ := nb BK753 hg (fun h => by (with_reducible repeat (first | apply bn | apply bd | apply ba)); exact h)
               replace BK753 := bb BK753 (fun h => by (with_reducible repeat (first | apply bn | apply bd | apply ba)); exact h) hb
               obtain ⟨NB774_828, NB828_774⟩ := nb BK774 hg (fun h => by (with_reducible repeat (first | apply bn | apply bd | apply ba)); exact h)
               replace BK774 := bb BK774 (fun h => by (with_reducible repeat (first | apply bn | apply bd | apply ba)); exact h) hb
               obtain ⟨NB780_828, NB828_780⟩ := nb BK780 hg (fun h => by (with_reducible repeat (first | apply bn | apply bd | apply ba)); exact h)
               replace BK780 := bb BK780 (fun h => by (with_reducible repeat (first | apply bn | apply bd | apply ba)); exact h) hb
               obtain ⟨NB795_828, NB828_795⟩ := nb BK795 hg (fun h => by (with_reducible repeat (first | apply bn | apply bd | apply ba)); exact h)
               replace BK795 := bb BK795 (fun h => by (with_reducible repeat (first | apply bn | apply bd | apply ba)); exact h) hb
               clear hb hbox hg
               obtain ⟨Ao143, co143, eo143⟩ := Kd.R_slice HO813.out
               (first | subst eo143 | (injection eo143 with f1_ f2_ f3_; have f4_ := f1_.symm; have f5_ := f3_.symm; clear f1_ f2_ f3_; subst f4_; subst f5_))
               refine hK.out _ _ ⟨bt BK752 rfl, bt BK752 rfl, bt BK752 rfl, bt BK753 rfl, bt BK753 rfl, bt BK753 rfl, bt BK753 rfl, bt BK753 rfl, bt BK753 rfl, bt BK753 rfl, bt BK753 rfl⟩ (fun hHeld => ?_)
               clear hK K
               refine norm_ (a' := ?_) ?_ ?_
               rotate_left
               ·show Act.put _ (some 16) _ = _
                simp only [Act.put, List.setIfInBounds_toArray, List.set_cons_zero, List.set_cons_succ, i64_w, i32_w]
                rfl
               refine one_ (i := 5) (N := some 89) #[true, true, true, true, true, true, false, false, false, true, false, false] rfl rfl (one_of HT_.out (by kernel_rfl)) (by decide) (fun K hK => ?_)
               refine goes_ Try.func42 (by kernel_rfl) rfl #[.agg #[.int .i64 t809, .int .i64 t810, .slice Ao143 t811.length co143], .agg #[.int .i64 t814, .int .i64 t815, .int .i64 t816, .int .i64 t817, .int .i64 t818, .int .i64 t819, .int .i64 t820, .int .i64 t821], .int .i64 a2] (by rfl) rfl rfl (by (try simp only [List.map_toArray, List.map_cons, List.map_nil]); first | done | rfl | (simp only [List.length_drop, List.length_take]; rfl)) ?_
               with_reducible refine (impl_RecDo.calls kj79 t809 t810 _ _ t811 t814 t815 t816 t817 t818 t819 t820 t821 a2 t822 t823 t824 t827 _ ?side1 ?side2 A129.out).mono ?_
               (case side1 => repeat (first | exact (Kd.R_reads' HO813.out).2.2 | (with_reducible refine Kd.C_alloc ?_ _) | (with_reducible refine Kd.C_drewN ?_ _) | (with_reducible refine Kd.C_drew ?_)))
               (case side2 => exact (Kd.R_reads' HO813.out).2.1)
               rintro e w144 ⟨v825, rfl, ho0, hb⟩
               refine ⟨_, rfl, ?_⟩
               have HO826 := az (Kd.R_lower (Kd.R_new' (Kd.R_new' (Kd.R_new' (Kd.R_new' ho0 (Kd.R_lt (by (with_reducible repeat (first | apply Kd.R_alloc | apply Kd.R_drewN | apply Kd.R_drew)); exact HO_775002.out))) (Kd.R_lt (by (with_reducible repeat (first | apply Kd.R_alloc | apply Kd.R_drewN | apply Kd.R_drew)); exact HO_781002.out))) (Kd.R_lt (by (with_reducible repeat (first | apply Kd.R_alloc | apply Kd.R_drewN | apply Kd.R_drew)); exact HO_796002.out))) (Kd.R_lt (by (with_reducible repeat (first | apply Kd.R_alloc | apply Kd.R_drewN | apply Kd.R_drew)); exact HO813.out))) (below_size (by repeat (first | (with_reducible first | exact HB.out | apply wa | apply wn | apply wd | refine ws ‹_› ?_) | exact HB.out))))
               replace HO_775002 := az (Kd.R_elder' (by (with_reducible repeat (first | apply Kd.R_alloc | apply Kd.R_drewN | apply Kd.R_drew)); exact HO_775002.out) (Kd.R_base ho0) hb)
               replace HO_781002 := az (Kd.R_elder' (by (with_reducible repeat (first | apply Kd.R_alloc | apply Kd.R_drewN | apply Kd.R_drew)); exact HO_781002.out) (Kd.R_base ho0) hb)
               replace HO_796002 := az (Kd.R_elder' (by (with_reducible repeat (first | apply Kd.R_alloc | apply Kd.R_drewN | apply Kd.R_drew)); exact HO_796002.out) (Kd.R_base ho0) hb)
               replace HO813 := az (Kd.R_elder' (by (with_reducible repeat (first | apply Kd.R_alloc | apply Kd.R_drewN | apply Kd.R_drew)); exact HO813.out) (Kd.R_base ho0) hb)
               replace BK752 := bb BK752 (fun h => by (with_reducible repeat (first | apply bn | apply bd | apply ba)); exact h) hb
               replace BK753 := bb BK753 (fun h => by (with_reducible repeat (first | apply bn | apply bd | apply ba)); exact h) hb
               replace BK774 := bb BK774 (fun h => by (with_reducible repeat (first | apply bn | apply bd | apply ba)); exact h) hb
               replace BK780 := bb BK780 (fun h => by (with_reducible repeat (first | apply bn | apply bd | apply ba)); exact h) hb
               replace BK795 := bb BK795 (fun h => by (with_reducible repeat (first | apply bn | apply bd | apply ba)); exact h) hb
               replace BK828 := bb BK828 (fun h => by (with_reducible repeat (first | apply bn | apply bd | apply ba)); exact h) hb
               replace HB := az (below_step (by repeat (first | (with_reducible first | exact HB.out | apply wa | apply wn | apply wd | refine ws ‹_› ?_) | exact HB.out)) hb)
               (try clear hb);(try clear hb2);(try clear hk);(try clear hi);(try clear ho0)
               refine hK.out _ _ ⟨bt BK752 rfl, bt BK752 rfl, bt BK752 rfl, bt BK753 rfl, bt BK753 rfl, bt BK753 rfl, bt BK753 rfl, bt BK753 rfl, bt BK753 rfl, bt BK753 rfl, bt BK753 rfl⟩ (fun hHeld => ?_)
               clear hK K
               refine norm_ (a' := ?_) ?_ ?_
               rotate_left
               ·show Act.put _ (some 89) _ = _
                simp only [Act.put, List.setIfInBounds_toArray, List.set_cons_zero, List.set_cons_succ, i64_w, i32_w]
                rfl
               refine pure_ (i := 6) (N := some 83) (v := ?_) (a' := ?_) #[true, true, true, true, true, true, true, false, false, true, false, false] rfl rfl (any_of HT_.out (by kernel_rfl)) (fun _ _ _ h => h) (Or.inl ⟨by rfl, ?_⟩) ?_ ?_
               rotate_left
               ·intro w'
                go_simp
                with_reducible rfl
               rotate_left
               ·simp only [Act.put, List.setIfInBounds_toArray, List.set_cons_zero, List.set_cons_succ, i64_w, i32_w]
                rfl
               refine pure_ (i := 7) (N := some 90) (v := ?_) (a' := ?_) #[true, true, true, true, true, true, true, true, false, true, false, false] rfl rfl (any_of HT_.out (by kernel_rfl)) (fun _ _ _ h => h) (Or.inl ⟨by rfl, ?_⟩) ?_ ?_
               rotate_left
               ·intro w'
                go_simp
                with_reducible rfl
               rotate_left
               ·simp only [Act.put, List.setIfInBounds_toArray, List.set_cons_zero, List.set_cons_succ, i64_w, i32_w]
                rfl
               refine pure_ (i := 8) (N := some 91) (v := ?_) (a' := ?_) #[true, true, true, true, true, true, true, true, true, true, false, false] rfl rfl (any_of HT_.out (by kernel_rfl)) (fun _ _ _ h => h) (Or.inl ⟨by rfl, ?_⟩) ?_ ?_
               rotate_left
               ·intro w'
                go_simp
                with_reducible rfl
               rotate_left
               ·simp only [Act.put, List.setIfInBounds_toArray, List.set_cons_zero, List.set_cons_succ, i64_w, i32_w]
                rfl
               exact norm_ (by simp only [putAll, Act.put, List.setIfInBounds_toArray, List.set_cons_zero, List.set_cons_succ]) (hCont (.slice Ao143 t811.length co143, v825, gb828) _ ⟨hHeld, (by (with_reducible repeat (first | apply Kd.R_alloc | apply Kd.R_drewN | apply Kd.R_drew)); exact Kd.R_mono HO813.out (fun _ hk => ⟨hk.2, ⟨hk.1.1.1.2, ⟨hk.1.1.2, hk.1.2⟩⟩⟩)), (by (with_reducible repeat (first | apply Kd.R_alloc | apply Kd.R_drewN | apply Kd.R_drew)); exact Kd.R_mono HO826.out (fun _ hk => ⟨hk.2, ⟨hk.1.1.1.2, ⟨hk.1.1.2, hk.1.2⟩⟩⟩)), (by (with_reducible repeat (first | apply Kd.R_alloc | apply Kd.R_drewN | apply Kd.R_drew)); exact Kd.R_mono HO_775002.out (fun _ hk => ⟨hk.1.2, ⟨hk.2, ⟨hk.1.1.1, hk.1.1.2⟩⟩⟩)), (by (with_reducible repeat (first | apply Kd.R_alloc | apply Kd.R_drewN | apply Kd.R_drew)); exact Kd.R_mono HO_781002.out (fun _ hk => ⟨hk.1.2, ⟨hk.2, ⟨hk.1.1.1, hk.1.1.2⟩⟩⟩)), (by (with_reducible repeat (first | apply Kd.R_alloc | apply Kd.R_drewN | apply Kd.R_drew)); exact Kd.R_mono HO_796002.out (fun _ hk => ⟨hk.1.2, ⟨hk.2, ⟨hk.1.1.1, hk.1.1.2⟩⟩⟩)), (by (with_reducible repeat (first | apply bn | apply bd | apply ba)); exact BK752.out), (by (with_reducible repeat (first | apply bn | apply bd | apply ba)); exact BK753.out), (by (with_reducible repeat (first | apply bn | apply bd | apply ba)); exact BK774.out), (by (with_reducible repeat (first | apply bn | apply bd | apply ba)); exact BK780.out), (by (with_reducible repeat (first | apply bn | apply bd | apply ba)); exact BK795.out), (by (with_reducible repeat (first | apply bn | apply bd | apply ba)); exact BK828.out), GW828.out, GE828.out, NB752_828.out, NB828_752.out, NB753_828.out, NB828_753.out, NB774_828.out, NB828_774.out, NB780_828.out, NB828_780.out, NB795_828.out, NB828_795.out, (by repeat (first | (with_reducible first | exact HB.out | apply wa | apply wn | apply wd | refine ws ‹_› ?_) | exact HB.out))⟩)
             ·skip
              refine box_step ?hg (N := 16) ?hd (cs := #[.int .i64 0, .int .i64 0, .slice none 0 0]) (t := 25) ?hr ?_; (case hd => rfl); (case hg => rfl); (case hr => first | (go_simp; done) | (go_simp; rfl))
              intro gb828 hg w141 hbox hb
              replace HO_775002 := az (Kd.R_below (by (with_reducible repeat (first | apply Kd.R_alloc | apply Kd.R_drewN | apply Kd.R_drew)); exact HO_775002.out) hb)
              replace HO_781002 := az (Kd.R_below (by (with_reducible repeat (first | apply Kd.R_alloc | apply Kd.R_drewN | apply Kd.R_drew)); exact HO_781002.out) hb)
              replace HO_796002 := az (Kd.R_below (by (with_reducible repeat (first | apply Kd.R_alloc | apply Kd.R_drewN | apply Kd.R_drew)); exact HO_796002.out) hb)
              replace HO813 := az (Kd.R_below (by (with_reducible repeat (first | apply Kd.R_alloc | apply Kd.R_drewN | apply Kd.R_drew)); exact HO813.out) hb)
              have BK828 := az (hbox)
              have GW828 := az ((by rw [hg]; exact (below_size (by repeat (first | (with_reducible first | exact HB.out | apply wa | apply wn | apply wd | refine ws ‹_› ?_) | exact HB.out))) : w.heap.size ≤ gb828))
              have GE828 := GW828
              replace HB := az (below_step (by repeat (first | (with_reducible first | exact HB.out | apply wa | apply wn | apply wd | refine ws ‹_› ?_) | exact HB.out)) hb)
              obtain ⟨NB752_828, NB828_752⟩ := nb BK752 hg (fun h => by (with_reducible repeat (first | apply bn | apply bd | apply ba)); exact h)
              replace BK752 := bb BK752 (fun h => by (with_reducible repeat (first | apply bn | apply bd | apply ba)); exact h) hb
              obtain ⟨NB753_828, NB828_753⟩ := nb BK753 hg (fun h => by (with_reducible repeat (first | apply bn | apply bd | apply ba)); exact h)
              replace BK753 := bb BK753 (fun h => by (with_reducible repeat (first | apply bn | apply bd | apply ba)); exact h) hb
              obtain ⟨NB774_828, NB828_774⟩ := nb BK774 hg (fun h => by (with_reducible repeat (first | apply bn | apply bd | apply ba)); exact h)
              replace BK774 := bb BK774 (fun h => by (with_reducible repeat (first | apply bn | apply bd | apply ba)); exact h) hb
              obtain ⟨NB780_828, NB828_780⟩ := nb BK780 hg (fun h => by (with_reducible repeat (first | apply bn | apply bd | apply ba)); exact h)
              replace BK780 := bb BK780 (fun h => by (with_reducible repeat (first | apply bn | apply bd | apply ba)); exact h) hb
              obtain ⟨NB795_828, NB828_795⟩ := nb BK795 hg (fun h => by (with_reducible repeat (first | apply bn | apply bd | apply ba)); exact h)
              replace BK795 := bb BK795 (fun h => by (with_reducible repeat (first | apply bn | apply bd | apply ba)); exact h) hb
              clear hb hbox hg
              refine hK.out _ _ ⟨bt BK752 rfl, bt BK752 rfl, bt BK752 rfl, bt BK753 rfl, bt BK753 rfl, bt BK753 rfl, bt BK753 rfl, bt BK753 rfl, bt BK753 rfl, bt BK753 rfl, bt BK753 rfl⟩ (fun hHeld => ?_)
              clear hK K
              refine norm_ (a' := ?_) ?_ ?_
              rotate_left
              ·show Act.put _ (some 16) _ = _
               simp only [Act.put, List.setIfInBounds_toArray, List.set_cons_zero, List.set_cons_succ, i64_w, i32_w]
               rfl
              refine one_ (i := 3) (N := some 87) #[true, true, true, true, true, false, false, false, false, true, false, false] rfl rfl (one_of HT_.out (by kernel_rfl)) (by decide) (fun K hK => ?_)
              refine goes_ Try.func52 (by kernel_rfl) rfl #[.agg #[.int .i64 a1_0, .int .i64 a1_1, .int .i64 a1_2, .int .i64 a1_3, .int .i64 a1_4, .int .i64 a1_5, .int .i64 a1_6, .int .i64 a1_7]] (by rfl) rfl rfl (by (try simp only [List.map_toArray, List.map_cons, List.map_nil]); first | done | rfl | (simp only [List.length_drop, List.length_take]; rfl)) ?_
              with_reducible refine (laws_toRec.calls a1_0 a1_1 a1_2 a1_3 a1_4 a1_5 a1_6 a1_7 t814 t815 t816 t817 t818 t819 t820 t821 _ A128.out).mono ?_
              rintro e w142 ⟨rfl, hb⟩
              refine ⟨_, rfl, ?_⟩
              replace HO_775002 := az (Kd.R_below (by (with_reducible repeat (first | apply Kd.R_alloc | apply Kd.R_drewN | apply Kd.R_drew)); exact HO_775002.out) hb)
              replace HO_781002 := az (Kd.R_below (by (with_reducible repeat (first | apply Kd.R_alloc | apply Kd.R_drewN | apply Kd.R_drew)); exact HO_781002.out) hb)
              replace HO_796002 := az (Kd.R_below (by (with_reducible repeat (first | apply Kd.R_alloc | apply Kd.R_drewN | apply Kd.R_drew)); exact HO_796002.out) hb)
              replace HO813 := az (Kd.R_below (by (with_reducible repeat (first | apply Kd.R_alloc | apply Kd.R_drewN | apply Kd.R_drew)); exact HO813.out) hb)
              replace BK752 := bb BK752 (fun h => by (with_reducible repeat (first | apply bn | apply bd | apply ba)); exact h) hb
              replace BK753 := bb BK753 (fun h => by (with_reducible repeat (first | apply bn | apply bd | apply ba)); exact h) hb
              replace BK774 := bb BK774 (fun h => by (with_reducible repeat (first | apply bn | apply bd | apply ba)); exact h) hb
              replace BK780 := bb BK780 (fun h => by (with_reducible repeat (first | apply bn | apply bd | apply ba)); exact h) hb
              replace BK795 := bb BK795 (fun h => by (with_reducible repeat (first | apply bn | apply bd | apply ba)); exact h) hb
              replace BK828 := bb BK828 (fun h => by (with_reducible repeat (first | apply bn | apply bd | apply ba)); exact h) hb
              replace HB := az (below_step (by repeat (first | (with_reducible first | exact HB.out | apply wa | apply wn | apply wd | refine ws ‹_› ?_) | exact HB.out)) hb)
              (try clear hb);(try clear hb2);(try clear hk);(try clear hi)
              obtain ⟨Ao143, co143, eo143⟩ := Kd.R_slice HO813.out
              (first | subst eo143 | (injection eo143 with f1_ f2_ f3_; have f4_ := f1_.symm; have f5_ := f3_.symm; clear f1_ f2_ f3_; subst f4_; subst f5_))
              refine hK.out _ _ ⟨bt BK752 rfl, bt BK752 rfl, bt BK752 rfl, bt BK753 rfl, bt BK753 rfl, bt BK753 rfl, bt BK753 rfl, bt BK753 rfl, bt BK753 rfl, bt BK753 rfl, bt BK753 rfl⟩ (fun hHeld => ?_)
              clear hK K
              refine norm_ (a' := ?_) ?_ ?_
              rotate_left
              ·show Act.put _ (some 87) _ = _
               simp only [Act.put, List.setIfInBounds_toArray, List.set_cons_zero, List.set_cons_succ, i64_w, i32_w]
               rfl
              refine one_ (i := 5) (N := some 89) #[true, true, true, true, true, true, false, false, false, true, false, false] rfl rfl (one_of HT_.out (by kernel_rfl)) (by decide) (fun K hK => ?_)
              refine goes_ Try.func42 (by kernel_rfl) rfl #[.agg #[.int .i64 t809, .int .i64 t810, .slice Ao143 t811.length co143], .agg #[.int .i64 t814, .int .i64 t815, .int .i64 t816, .int .i64 t817, .int .i64 t818, .int .i64 t819, .int .i64 t820, .int .i64 t821], .int .i64 a2] (by rfl) rfl rfl (by (try simp only [List.map_toArray, List.map_cons, List.map_nil]); first | done | rfl | (simp only [List.length_drop, List.length_take]; rfl)) ?_
              with_reducible refine (impl_RecDo.calls kj79 t809 t810 _ _ t811 t814 t815 t816 t817 t818 t819 t820 t821 a2 t822 t823 t824 t827 _ ?side1 ?side2 A129.out).mono ?_
              (case side1 => repeat (first | exact (Kd.R_reads' HO813.out).2.2 | (with_reducible refine Kd.C_alloc ?_ _) | (with_reducible refine Kd.C_drewN ?_ _) | (with_reducible refine Kd.C_drew ?_)))
              (case side2 => exact (Kd.R_reads' HO813.out).2.1)
              rintro e w144 ⟨v825, rfl, ho0, hb⟩
              refine ⟨_, rfl, ?_⟩
              have HO826 := az (Kd.R_lower (Kd.R_new' (Kd.R_new' (Kd.R_new' (Kd.R_new' ho0 (Kd.R_lt (by (with_reducible repeat (first | apply Kd.R_alloc | apply Kd.R_drewN | apply Kd.R_drew)); exact HO_775002.out))) (Kd.R_lt (by (with_reducible repeat (first | apply Kd.R_alloc | apply Kd.R_drewN | apply Kd.R_drew)); exact HO_781002.out))) (Kd.R_lt (by (with_reducible repeat (first | apply Kd.R_alloc | apply Kd.R_drewN | apply Kd.R_drew)); exact HO_796002.out))) (Kd.R_lt (by (with_reducible repeat (first | apply Kd.R_alloc | apply Kd.R_drewN | apply Kd.R_drew)); exact HO813.out))) (below_size (by repeat (first | (with_reducible first | exact HB.out | apply wa | apply wn | apply wd | refine ws ‹_› ?_) | exact HB.out))))
              replace HO_775002 := az (Kd.R_elder' (by (with_reducible repeat (first | apply Kd.R_alloc | apply Kd.R_drewN | apply Kd.R_drew)); exact HO_775002.out) (Kd.R_base ho0) hb)
              replace HO_781002 := az (Kd.R_elder' (by (with_reducible repeat (first | apply Kd.R_alloc | apply Kd.R_drewN | apply Kd.R_drew)); exact HO_781002.out) (Kd.R_base ho0) hb)
              replace HO_796002 := az (Kd.R_elder' (by (with_reducible repeat (first | apply Kd.R_alloc | apply Kd.R_drewN | apply Kd.R_drew)); exact HO_796002.out) (Kd.R_base ho0) hb)
              replace HO813 := az (Kd.R_elder' (by (with_reducible repeat (first | apply Kd.R_alloc | apply Kd.R_drewN | apply Kd.R_drew)); exact HO813.out) (Kd.R_base ho0) hb)
              replace BK752 := bb BK752 (fun h => by (with_reducible repeat (first | apply bn | apply bd | apply ba)); exact h) hb
              replace BK753 := bb BK753 (fun h => by (with_reducible repeat (first | apply bn | apply bd | apply ba)); exact h) hb
              replace BK774 := bb BK774 (fun h => by (with_reducible repeat (first | apply bn | apply bd | apply ba)); exact h) hb
              replace BK780 := bb BK780 (fun h => by (with_reducible repeat (first | apply bn | apply bd | apply ba)); exact h) hb
              replace BK795 := bb BK795 (fun h => by (with_reducible repeat (first | apply bn | apply bd | apply ba)); exact h) hb
              replace BK828 := bb BK828 (fun h => by (with_reducible repeat (first | apply bn | apply bd | apply ba)); exact h) hb
              replace HB := az (below_step (by repeat (first | (with_reducible first | exact HB.out | apply wa | apply wn | apply wd | refine ws ‹_› ?_) | exact HB.out)) hb)
              (try clear hb);(try clear hb2);(try clear hk);(try clear hi);(try clear ho0)
              refine hK.out _ _ ⟨bt BK752 rfl, bt BK752 rfl, bt BK752 rfl, bt BK753 rfl, bt BK753 rfl, bt BK753 rfl, bt BK753 rfl, bt BK753 rfl, bt BK753 rfl, bt BK753 rfl, bt BK753 rfl⟩ (fun hHeld => ?_)
              clear hK K
              refine norm_ (a' := ?_) ?_ ?_
              rotate_left
              ·show Act.put _ (some 89) _ = _
               simp only [Act.put, List.setIfInBounds_toArray, List.set_cons_zero, List.set_cons_succ, i64_w, i32_w]
               rfl
              refine pure_ (i := 6) (N := some 83) (v := ?_) (a' := ?_) #[true, true, true, true, true, true, true, false, false, true, false, false] rfl rfl (any_of HT_.out (by kernel_rfl)) (fun _ _ _ h => h) (Or.inl ⟨by rfl, ?_⟩) ?_ ?_
              rotate_left
              ·intro w'
               go_simp
               with_reducible rfl
              rotate_left
              ·simp only [Act.put, List.setIfInBounds_toArray, List.set_cons_zero, List.set_cons_succ, i64_w, i32_w]
               rfl
              refine pure_ (i := 7) (N := some 90) (v := ?_) (a' := ?_) #[true, true, true, true, true, true, true, true, false, true, false, false] rfl rfl (any_of HT_.out (by kernel_rfl)) (fun _ _ _ h => h) (Or.inl ⟨by rfl, ?_⟩) ?_ ?_
              rotate_left
              ·intro w'
               go_simp
               with_reducible rfl
              rotate_left
              ·simp only [Act.put, List.setIfInBounds_toArray, List.set_cons_zero, List.set_cons_succ, i64_w, i32_w]
               rfl
              refine pure_ (i := 8) (N := some 91) (v := ?_) (a' := ?_) #[true, true, true, true, true, true, true, true, true, true, false, false] rfl rfl (any_of HT_.out (by kernel_rfl)) (fun _ _ _ h => h) (Or.inl ⟨by rfl, ?_⟩) ?_ ?_
              rotate_left
              ·intro w'
               go_simp
               with_reducible rfl
              rotate_left
              ·simp only [Act.put, List.setIfInBounds_toArray, List.set_cons_zero, List.set_cons_succ, i64_w, i32_w]
               rfl
              exact norm_ (by simp only [putAll, Act.put, List.setIfInBounds_toArray, List.set_cons_zero, List.set_cons_succ]) (hCont (.slice Ao143 t811.length co143, v825, gb828) _ ⟨hHeld, (by (with_reducible repeat (first | apply Kd.R_alloc | apply Kd.R_drewN | apply Kd.R_drew)); exact Kd.R_mono HO813.out (fun _ hk => ⟨hk.2, ⟨hk.1.1.1.2, ⟨hk.1.1.2, hk.1.2⟩⟩⟩)), (by (with_reducible repeat (first | apply Kd.R_alloc | apply Kd.R_drewN | apply Kd.R_drew)); exact Kd.R_mono HO826.out (fun _ hk => ⟨hk.2, ⟨hk.1.1.1.2, ⟨hk.1.1.2, hk.1.2⟩⟩⟩)), (by (with_reducible repeat (first | apply Kd.R_alloc | apply Kd.R_drewN | apply Kd.R_drew)); exact Kd.R_mono HO_775002.out (fun _ hk => ⟨hk.1.2, ⟨hk.2, ⟨hk.1.1.1, hk.1.1.2⟩⟩⟩)), (by (with_reducible repeat (first | apply Kd.R_alloc | apply Kd.R_drewN | apply Kd.R_drew)); exact Kd.R_mono HO_781002.out (fun _ hk => ⟨hk.1.2, ⟨hk.2, ⟨hk.1.1.1, hk.1.1.2⟩⟩⟩)), (by (with_reducible repeat (first | apply Kd.R_alloc | apply Kd.R_drewN | apply Kd.R_drew)); exact Kd.R_mono HO_796002.out (fun _ hk => ⟨hk.1.2, ⟨hk.2, ⟨hk.1.1.1, hk.1.1.2⟩⟩⟩)), (by (with_reducible repeat (first | apply bn | apply bd | apply ba)); exact BK752.out), (by (with_reducible repeat (first | apply bn | apply bd | apply ba)); exact BK753.out), (by (with_reducible repeat (first | apply bn | apply bd | apply ba)); exact BK774.out), (by (with_reducible repeat (first | apply bn | apply bd | apply ba)); exact BK780.out), (by (with_reducible repeat (first | apply bn | apply bd | apply ba)); exact BK795.out), (by (with_reducible repeat (first | apply bn | apply bd | apply ba)); exact BK828.out), GW828.out, GE828.out, NB752_828.out, NB828_752.out, NB753_828.out, NB828_753.out, NB774_828.out, NB828_774.out, NB780_828.out, NB828_780.out, NB795_828.out, NB828_795.out, (by repeat (first | (with_reducible first | exact HB.out | apply wa | apply wn | apply wd | refine ws ‹_› ?_) | exact HB.out))⟩)
            ·skip
             refine box_step ?hg (N := 16) ?hd (cs := #[.int .i64 0, .int .i64 0, .slice none 0 0]) (t := 25) ?hr ?_; (case hd => rfl); (case hg => rfl); (case hr => first | (go_simp; done) | (go_simp; rfl))
             intro gb828 hg w140 hbox hb
             replace HO_775002 := az (Kd.R_below (by (with_reducible repeat (first | apply Kd.R_alloc | apply Kd.R_drewN | apply Kd.R_drew)); exact HO_775002.out) hb)
             replace HO_781002 := az (Kd.R_below (by (with_reducible repeat (first | apply Kd.R_alloc | apply Kd.R_drewN | apply Kd.R_drew)); exact HO_781002.out) hb)
             replace HO_796002 := az (Kd.R_below (by (with_reducible repeat (first | apply Kd.R_alloc | apply Kd.R_drewN | apply Kd.R_drew)); exact HO_796002.out) hb)
             have BK828 := az (hbox)
             have GW828 := az ((by rw [hg]; exact (below_size (by repeat (first | (with_reducible first | exact HB.out | apply wa | apply wn | apply wd | refine ws ‹_› ?_) | exact HB.out))) : w.heap.size ≤ gb828))
             have GE828 := GW828
             replace HB := az (below_step (by repeat (first | (with_reducible first | exact HB.out | apply wa | apply wn | apply wd | refine ws ‹_› ?_) | exact HB.out)) hb)
             obtain ⟨NB752_828, NB828_752⟩ := nb BK752 hg (fun h => by (with_reducible repeat (first | apply bn | apply bd | apply ba)); exact h)
             replace BK752 := bb BK752 (fun h => by (with_reducible repeat (first | apply bn | apply bd | apply ba)); exact h) hb
             obtain ⟨NB753_828, NB828_753⟩ := nb BK753 hg (fun h => by (with_reducible repeat (first | apply bn | apply bd | apply ba)); exact h)
             replace BK753 := bb BK753 (fun h => by (with_reducible repeat (first | apply bn | apply bd | apply ba)); exact h) hb
             obtain ⟨NB774_828, NB828_774⟩ := nb BK774 hg (fun h => by (with_reducible repeat (first | apply bn | apply bd | apply ba)); exact h)
             replace BK774 := bb BK774 (fun h => by (with_reducible repeat (first | apply bn | apply bd | apply ba)); exact h) hb
             obtain ⟨NB780_828, NB828_780⟩ := nb BK780 hg (fun h => by (with_reducible repeat (first | apply bn | apply bd | apply ba)); exact h)
             replace BK780 := bb BK780 (fun h => by (with_reducible repeat (first | apply bn | apply bd | apply ba)); exact h) hb
             obtain ⟨NB795_828, NB828_795⟩ := nb BK795 hg (fun h => by (with_reducible repeat (first | apply bn | apply bd | apply ba)); exact h)
             replace BK795 := bb BK795 (fun h => by (with_reducible repeat (first | apply bn | apply bd | apply ba)); exact h) hb
             clear hb hbox hg
             refine hK.out _ _ ⟨bt BK752 rfl, bt BK752 rfl, bt BK752 rfl, bt BK753 rfl, bt BK753 rfl, bt BK753 rfl, bt BK753 rfl, bt BK753 rfl, bt BK753 rfl, bt BK753 rfl, bt BK753 rfl⟩ (fun hHeld => ?_)
             clear hK K
             refine norm_ (a' := ?_) ?_ ?_
             rotate_left
             ·show Act.put _ (some 16) _ = _
              simp only [Act.put, List.setIfInBounds_toArray, List.set_cons_zero, List.set_cons_succ, i64_w, i32_w]
              rfl
             refine one_ (i := 1) (N := some 85) #[true, true, true, false, true, false, false, false, false, true, false, false] rfl rfl (one_of HT_.out (by kernel_rfl)) (by decide) (fun K hK => ?_)
             refine goes_ Try.func51 (by kernel_rfl) rfl #[.agg #[.int .i64 a0_0, .int .i64 a0_1, .slice A0_2 l0_2.length c0_2]] (by rfl) rfl rfl (by (try simp only [List.map_toArray, List.map_cons, List.map_nil]); first | done | rfl | (simp only [List.length_drop, List.length_take]; rfl)) ?_
             with_reducible refine (laws_toPage.calls kj79 a0_0 a0_1 _ _ l0_2 t809 t810 t811 _ ?side1 ?side2 A127.out).mono ?_
             (case side1 => repeat (first | exact (Kd.C_below HR0_2.out HB.out) | (with_reducible refine Kd.C_alloc ?_ _) | (with_reducible refine Kd.C_drewN ?_ _) | (with_reducible refine Kd.C_drew ?_)))
             (case side2 => exact HC0_2.out)
             rintro e w141 ⟨v812, rfl, ho0, hb⟩
             refine ⟨_, rfl, ?_⟩
             have HO813 := az (Kd.R_lower (Kd.R_new' (Kd.R_new' (Kd.R_new' ho0 (Kd.R_lt (by (with_reducible repeat (first | apply Kd.R_alloc | apply Kd.R_drewN | apply Kd.R_drew)); exact HO_775002.out))) (Kd.R_lt (by (with_reducible repeat (first | apply Kd.R_alloc | apply Kd.R_drewN | apply Kd.R_drew)); exact HO_781002.out))) (Kd.R_lt (by (with_reducible repeat (first | apply Kd.R_alloc | apply Kd.R_drewN | apply Kd.R_drew)); exact HO_796002.out))) (below_size (by repeat (first | (with_reducible first | exact HB.out | apply wa | apply wn | apply wd | refine ws ‹_› ?_) | exact HB.out))))
             replace HO_775002 := az (Kd.R_elder' (by (with_reducible repeat (first | apply Kd.R_alloc | apply Kd.R_drewN | apply Kd.R_drew)); exact HO_775002.out) (Kd.R_base ho0) hb)
             replace HO_781002 := az (Kd.R_elder' (by (with_reducible repeat (first | apply Kd.R_alloc | apply Kd.R_drewN | apply Kd.R_drew)); exact HO_781002.out) (Kd.R_base ho0) hb)
             replace HO_796002 := az (Kd.R_elder' (by (with_reducible repeat (first | apply Kd.R_alloc | apply Kd.R_drewN | apply Kd.R_drew)); exact HO_796002.out) (Kd.R_base ho0) hb)
             replace BK752 := bb BK752 (fun h => by (with_reducible repeat (first | apply bn | apply bd | apply ba)); exact h) hb
             replace BK753 := bb BK753 (fun h => by (with_reducible repeat (first | apply bn | apply bd | apply ba)); exact h) hb
             replace BK774 := bb BK774 (fun h => by (with_reducible repeat (first | apply bn | apply bd | apply ba)); exact h) hb
             replace BK780 := bb BK780 (fun h => by (with_reducible repeat (first | apply bn | apply bd | apply ba)); exact h) hb
             replace BK795 := bb BK795 (fun h => by (with_reducible repeat (first | apply bn | apply bd | apply ba)); exact h) hb
             replace BK828 := bb BK828 (fun h => by (with_reducible repeat (first | apply bn | apply bd | apply ba)); exact h) hb
             replace HB := az (below_step (by repeat (first | (with_reducible first | exact HB.out | apply wa | apply wn | apply wd | refine ws ‹_› ?_) | exact HB.out)) hb)
             (try clear hb);(try clear hb2);(try clear hk);(try clear hi);(try clear ho0)
             refine hK.out _ _ ⟨bt BK752 rfl, bt BK752 rfl, bt BK752 rfl, bt BK753 rfl, bt BK753 rfl, bt BK753 rfl, bt BK753 rfl, bt BK753 rfl, bt BK753 rfl, bt BK753 rfl, bt BK753 rfl⟩ (fun hHeld => ?_)
             clear hK K
             refine norm_ (a' := ?_) ?_ ?_
             rotate_left
             ·show Act.put _ (some 85) _ = _
              simp only [Act.put, List.setIfInBounds_toArray, List.set_cons_zero, List.set_cons_succ, i64_w, i32_w]
              rfl
             refine one_ (i := 3) (N := some 87) #[true, true, true, true, true, false, false, false, false, true, false, false] rfl rfl (one_of HT_.out (by kernel_rfl)) (by decide) (fun K hK => ?_)
             refine goes_ Try.func52 (by kernel_rfl) rfl #[.agg #[.int .i64 a1_0, .int .i64 a1_1, .int .i64 a1_2, .int .i64 a1_3, .int .i64 a1_4, .int .i64 a1_5, .int .i64 a1_6, .int .i64 a1_7]] (by rfl) rfl rfl (by (try simp only [List.map_toArray, List.map_cons, List.map_nil]); first | done | rfl | (simp only [List.length_drop, List.length_take]; rfl)) ?_
             with_reducible refine (laws_toRec.calls a1_0 a1_1 a1_2 a1_3 a1_4 a1_5 a1_6 a1_7 t814 t815 t816 t817 t818 t819 t820 t821 _ A128.out).mono ?_
             rintro e w142 ⟨rfl, hb⟩
             refine ⟨_, rfl, ?_⟩
             replace HO_775002 := az (Kd.R_below (by (with_reducible repeat (first | apply Kd.R_alloc | apply Kd.R_drewN | apply Kd.R_drew)); exact HO_775002.out) hb)
             replace HO_781002 := az (Kd.R_below (by (with_reducible repeat (first | apply Kd.R_alloc | apply Kd.R_drewN | apply Kd.R_drew)); exact HO_781002.out) hb)
             replace HO_796002 := az (Kd.R_below (by (with_reducible repeat (first | apply Kd.R_alloc | apply Kd.R_drewN | apply Kd.R_drew)); exact HO_796002.out) hb)
             replace HO813 := az (Kd.R_below (by (with_reducible repeat (first | apply Kd.R_alloc | apply Kd.R_drewN | apply Kd.R_drew)); exact HO813.out) hb)
             replace BK752 := bb BK752 (fun h => by (with_reducible repeat (first | apply bn | apply bd | apply ba)); exact h) hb
             replace BK753 := bb BK753 (fun h => by (with_reducible repeat (first | apply bn | apply bd | apply ba)); exact h) hb
             replace BK774 := bb BK774 (fun h => by (with_reducible repeat (first | apply bn | apply bd | apply ba)); exact h) hb
             replace BK780 := bb BK780 (fun h => by (with_reducible repeat (first | apply bn | apply bd | apply ba)); exact h) hb
             replace BK795 := bb BK795 (fun h => by (with_reducible repeat (first | apply bn | apply bd | apply ba)); exact h) hb
             replace BK828 := bb BK828 (fun h => by (with_reducible repeat (first | apply bn | apply bd | apply ba)); exact h) hb
             replace HB := az (below_step (by repeat (first | (with_reducible first | exact HB.out | apply wa | apply wn | apply wd | refine ws ‹_› ?_) | exact HB.out)) hb)
             (try clear hb);(try clear hb2);(try clear hk);(try clear hi)
             obtain ⟨Ao143, co143, eo143⟩ := Kd.R_slice HO813.out
             (first | subst eo143 | (injection eo143 with f1_ f2_ f3_; have f4_ := f1_.symm; have f5_ := f3_.symm; clear f1_ f2_ f3_; subst f4_; subst f5_))
             refine hK.out _ _ ⟨bt BK752 rfl, bt BK752 rfl, bt BK752 rfl, bt BK753 rfl, bt BK753 rfl, bt BK753 rfl, bt BK753 rfl, bt BK753 rfl, bt BK753 rfl, bt BK753 rfl, bt BK753 rfl⟩ (fun hHeld => ?_)
             clear hK K
             refine norm_ (a' := ?_) ?_ ?_
             rotate_left
             ·show Act.put _ (some 87) _ = _
              simp only [Act.put, List.setIfInBounds_toArray, List.set_cons_zero, List.set_cons_succ, i64_w, i32_w]
              rfl
             refine one_ (i := 5) (N := some 89) #[true, true, true, true, true, true, false, false, false, true, false, false] rfl rfl (one_of HT_.out (by kernel_rfl)) (by decide) (fun K hK => ?_)
             refine goes_ Try.func42 (by kernel_rfl) rfl #[.agg #[.int .i64 t809, .int .i64 t810, .slice Ao143 t811.length co143], .agg #[.int .i64 t814, .int .i64 t815, .int .i64 t816, .int .i64 t817, .int .i64 t818, .int .i64 t819, .int .i64 t820, .int .i64 t821], .int .i64 a2] (by rfl) rfl rfl (by (try simp only [List.map_toArray, List.map_cons, List.map_nil]); first | done | rfl | (simp only [List.length_drop, List.length_take]; rfl)) ?_
             with_reducible refine (impl_RecDo.calls kj79 t809 t810 _ _ t811 t814 t815 t816 t817 t818 t819 t820 t821 a2 t822 t823 t824 t827 _ ?side1 ?side2 A129.out).mono ?_
             (case side1 => repeat (first | exact (Kd.R_reads' HO813.out).2.2 | (with_reducible refine Kd.C_alloc ?_ _) | (with_reducible refine Kd.C_drewN ?_ _) | (with_reducible refine Kd.C_drew ?_)))
             (case side2 => exact (Kd.R_reads' HO813.out).2.1)
             rintro e w144 ⟨v825, rfl, ho0, hb⟩
             refine ⟨_, rfl, ?_⟩
             have HO826 := az (Kd.R_lower (Kd.R_new' (Kd.R_new' (Kd.R_new' (Kd.R_new' ho0 (Kd.R_lt (by (with_reducible repeat (first | apply Kd.R_alloc | apply Kd.R_drewN | apply Kd.R_drew)); exact HO_775002.out))) (Kd.R_lt (by (with_reducible repeat (first | apply Kd.R_alloc | apply Kd.R_drewN | apply Kd.R_drew)); exact HO_781002.out))) (Kd.R_lt (by (with_reducible repeat (first | apply Kd.R_alloc | apply Kd.R_drewN | apply Kd.R_drew)); exact HO_796002.out))) (Kd.R_lt (by (with_reducible repeat (first | apply Kd.R_alloc | apply Kd.R_drewN | apply Kd.R_drew)); exact HO813.out))) (below_size (by repeat (first | (with_reducible first | exact HB.out | apply wa | apply wn | apply wd | refine ws ‹_› ?_) | exact HB.out))))
             replace HO_775002 := az (Kd.R_elder' (by (with_reducible repeat (first | apply Kd.R_alloc | apply Kd.R_drewN | apply Kd.R_drew)); exact HO_775002.out) (Kd.R_base ho0) hb)
             replace HO_781002 := az (Kd.R_elder' (by (with_reducible repeat (first | apply Kd.R_alloc | apply Kd.R_drewN | apply Kd.R_drew)); exact HO_781002.out) (Kd.R_base ho0) hb)
             replace HO_796002 := az (Kd.R_elder' (by (with_reducible repeat (first | apply Kd.R_alloc | apply Kd.R_drewN | apply Kd.R_drew)); exact HO_796002.out) (Kd.R_base ho0) hb)
             replace HO813 := az (Kd.R_elder' (by (with_reducible repeat (first | apply Kd.R_alloc | apply Kd.R_drewN | apply Kd.R_drew)); exact HO813.out) (Kd.R_base ho0) hb)
             replace BK752 := bb BK752 (fun h => by (with_reducible repeat (first | apply bn | apply bd | apply ba)); exact h) hb
             replace BK753 := bb BK753 (fun h => by (with_reducible repeat (first | apply bn | apply bd | apply ba)); exact h) hb
             replace BK774 := bb BK774 (fun h => by (with_reducible repeat (first | apply bn | apply bd | apply ba)); exact h) hb
             replace BK780 := bb BK780 (fun h => by (with_reducible repeat (first | apply bn | apply bd | apply ba)); exact h) hb
             replace BK795 := bb BK795 (fun h => by (with_reducible repeat (first | apply bn | apply bd | apply ba)); exact h) hb
             replace BK828 := bb BK828 (fun h => by (with_reducible repeat (first | apply bn | apply bd | apply ba)); exact h) hb
             replace HB := az (below_step (by repeat (first | (with_reducible first | exact HB.out | apply wa | apply wn | apply wd | refine ws ‹_› ?_) | exact HB.out)) hb)
             (try clear hb);(try clear hb2);(try clear hk);(try clear hi);(try clear ho0)
             refine hK.out _ _ ⟨bt BK752 rfl, bt BK752 rfl, bt BK752 rfl, bt BK753 rfl, bt BK753 rfl, bt BK753 rfl, bt BK753 rfl, bt BK753 rfl, bt BK753 rfl, bt BK753 rfl, bt BK753 rfl⟩ (fun hHeld => ?_)
             clear hK K
             refine norm_ (a' := ?_) ?_ ?_
             rotate_left
             ·show Act.put _ (some 89) _ = _
              simp only [Act.put, List.setIfInBounds_toArray, List.set_cons_zero, List.set_cons_succ, i64_w, i32_w]
              rfl
             refine pure_ (i := 6) (N := some 83) (v := ?_) (a' := ?_) #[true, true, true, true, true, true, true, false, false, true, false, false] rfl rfl (any_of HT_.out (by kernel_rfl)) (fun _ _ _ h => h) (Or.inl ⟨by rfl, ?_⟩) ?_ ?_
             rotate_left
             ·intro w'
              go_simp
              with_reducible rfl
             rotate_left
             ·simp only [Act.put, List.setIfInBounds_toArray, List.set_cons_zero, List.set_cons_succ, i64_w, i32_w]
              rfl
             refine pure_ (i := 7) (N := some 90) (v := ?_) (a' := ?_) #[true, true, true, true, true, true, true, true, false, true, false, false] rfl rfl (any_of HT_.out (by kernel_rfl)) (fun _ _ _ h => h) (Or.inl ⟨by rfl, ?_⟩) ?_ ?_
             rotate_left
             ·intro w'
              go_simp
              with_reducible rfl
             rotate_left
             ·simp only [Act.put, List.setIfInBounds_toArray, List.set_cons_zero, List.set_cons_succ, i64_w, i32_w]
              rfl
             refine pure_ (i := 8) (N := some 91) (v := ?_) (a' := ?_) #[true, true, true, true, true, true, true, true, true, true, false, false] rfl rfl (any_of HT_.out (by kernel_rfl)) (fun _ _ _ h => h) (Or.inl ⟨by rfl, ?_⟩) ?_ ?_
             rotate_left
             ·intro w'
              go_simp
              with_reducible rfl
             rotate_left
             ·simp only [Act.put, List.setIfInBounds_toArray, List.set_cons_zero, List.set_cons_succ, i64_w, i32_w]
              rfl
             exact norm_ (by simp only [putAll, Act.put, List.setIfInBounds_toArray, List.set_cons_zero, List.set_cons_succ]) (hCont (.slice Ao143 t811.length co143, v825, gb828) _ ⟨hHeld, (by (with_reducible repeat (first | apply Kd.R_alloc | apply Kd.R_drewN | apply Kd.R_drew)); exact Kd.R_mono HO813.out (fun _ hk => ⟨hk.2, ⟨hk.1.1.1.2, ⟨hk.1.1.2, hk.1.2⟩⟩⟩)), (by (with_reducible repeat (first | apply Kd.R_alloc | apply Kd.R_drewN | apply Kd.R_drew)); exact Kd.R_mono HO826.out (fun _ hk => ⟨hk.2, ⟨hk.1.1.1.2, ⟨hk.1.1.2, hk.1.2⟩⟩⟩)), (by (with_reducible repeat (first | apply Kd.R_alloc | apply Kd.R_drewN | apply Kd.R_drew)); exact Kd.R_mono HO_775002.out (fun _ hk => ⟨hk.1.2, ⟨hk.2, ⟨hk.1.1.1, hk.1.1.2⟩⟩⟩)), (by (with_reducible repeat (first | apply Kd.R_alloc | apply Kd.R_drewN | apply Kd.R_drew)); exact Kd.R_mono HO_781002.out (fun _ hk => ⟨hk.1.2, ⟨hk.2, ⟨hk.1.1.1, hk.1.1.2⟩⟩⟩)), (by (with_reducible repeat (first | apply Kd.R_alloc | apply Kd.R_drewN | apply Kd.R_drew)); exact Kd.R_mono HO_796002.out (fun _ hk => ⟨hk.1.2, ⟨hk.2, ⟨hk.1.1.1, hk.1.1.2⟩⟩⟩)), (by (with_reducible repeat (first | apply bn | apply bd | apply ba)); exact BK752.out), (by (with_reducible repeat (first | apply bn | apply bd | apply ba)); exact BK753.out), (by (with_reducible repeat (first | apply bn | apply bd | apply ba)); exact BK774.out), (by (with_reducible repeat (first | apply bn | apply bd | apply ba)); exact BK780.out), (by (with_reducible repeat (first | apply bn | apply bd | apply ba)); exact BK795.out), (by (with_reducible repeat (first | apply bn | apply bd | apply ba)); exact BK828.out), GW828.out, GE828.out, NB752_828.out, NB828_752.out, NB753_828.out, NB828_753.out, NB774_828.out, NB828_774.out, NB780_828.out, NB828_780.out, NB795_828.out, NB828_795.out, (by repeat (first | (with_reducible first | exact HB.out | apply wa | apply wn | apply wd | refine ws ‹_› ?_) | exact HB.out))⟩)
           rintro ⟨v812, v825, gb828⟩ w145 ⟨hS_, h0_, h1_, h2_, h3_, h4_, h5_, h6_, h7_, h8_, h9_, h10_, h11_, h12_, h13_, h14_, h15_, h16_, h17_, h18_, h19_, h20_, h21_, h22_, h23_⟩
           have HO813 : Aside0 (Kd.R (Kd.int .i64) 3 w145 w.heap.size (fun k_ => some k_ ≠ (v825 : Value).ownBlock ∧ some k_ ≠ (.slice Ao32 t770.length co32 : Value).ownBlock ∧ some k_ ≠ (.slice Ao42 t804.length co42 : Value).ownBlock ∧ some k_ ≠ (.slice Ao51 t791.length co51 : Value).ownBlock) v812 t811) := ⟨h0_⟩
           have HO826 : Aside0 (Kd.R (Kd.int .i64) 3 w145 w.heap.size (fun k_ => some k_ ≠ (v812 : Value).ownBlock ∧ some k_ ≠ (.slice Ao32 t770.length co32 : Value).ownBlock ∧ some k_ ≠ (.slice Ao42 t804.length co42 : Value).ownBlock ∧ some k_ ≠ (.slice Ao51 t791.length co51 : Value).ownBlock) v825 t824) := ⟨h1_⟩
           replace HO_775002 : Aside0 (Kd.R (Kd.int .i64) 3 w145 w.heap.size (fun k_ => some k_ ≠ (v812 : Value).ownBlock ∧ some k_ ≠ (v825 : Value).ownBlock ∧ some k_ ≠ (.slice Ao42 t804.length co42 : Value).ownBlock ∧ some k_ ≠ (.slice Ao51 t791.length co51 : Value).ownBlock) (.slice Ao32 t770.length co32) t770) := ⟨h2_⟩
           replace HO_781002 : Aside0 (Kd.R (Kd.int .i64) 3 w145 w.heap.size (fun k_ => some k_ ≠ (v812 : Value).ownBlock ∧ some k_ ≠ (v825 : Value).ownBlock ∧ some k_ ≠ (.slice Ao32 t770.length co32 : Value).ownBlock ∧ some k_ ≠ (.slice Ao51 t791.length co51 : Value).ownBlock) (.slice Ao42 t804.length co42) t804) := ⟨h3_⟩
           replace HO_796002 : Aside0 (Kd.R (Kd.int .i64) 3 w145 w.heap.size (fun k_ => some k_ ≠ (v812 : Value).ownBlock ∧ some k_ ≠ (v825 : Value).ownBlock ∧ some k_ ≠ (.slice Ao32 t770.length co32 : Value).ownBlock ∧ some k_ ≠ (.slice Ao42 t804.length co42 : Value).ownBlock) (.slice Ao51 t791.length co51) t807) := ⟨h4_⟩
           replace BK752 : Aside0 (w145.heap[gb752]? = some (.cells #[.int .i64 a0_0, .int .i64 a0_1, .slice A0_2 l0_2.length c0_2] 57 (0, 0))) := ⟨h5_⟩
           replace BK753 : Aside0 (w145.heap[gb753]? = some (.cells #[.int .i64 a1_0, .int .i64 a1_1, .int .i64 a1_2, .int .i64 a1_3, .int .i64 a1_4, .int .i64 a1_5, .int .i64 a1_6, .int .i64 a1_7] 58 (0, 0))) := ⟨h6_⟩
           replace BK774 : Aside0 (w145.heap[gb774]? = some (.cells #[.int .i64 t768, .int .i64 t769, .slice Ao32 t770.length co32] 25 (0, 0))) := ⟨h7_⟩
           replace BK780 : Aside0 (w145.heap[gb780]? = some (.cells #[.int .i64 t775, .int .i64 t776, .slice Ao42 t804.length co42] 25 (0, 0))) := ⟨h8_⟩
           replace BK795 : Aside0 (w145.heap[gb795]? = some (.cells #[.int .i64 t789, .int .i64 t790, .slice Ao51 t791.length co51] 25 (0, 0))) := ⟨h9_⟩
           have BK828 : Aside0 (w145.heap[gb828]? = some (.cells #[.int .i64 0, .int .i64 0, .slice none 0 0] 25 (0, 0))) := ⟨h10_⟩
           have GW828 : Aside0 (w.heap.size ≤ gb828) := ⟨h11_⟩
           have GE828 : Aside0 (w.heap.size ≤ gb828) := ⟨h12_⟩
           have NB752_828 : Aside0 (gb752 ≠ gb828) := ⟨h13_⟩
           have NB828_752 : Aside0 (gb828 ≠ gb752) := ⟨h14_⟩
           have NB753_828 : Aside0 (gb753 ≠ gb828) := ⟨h15_⟩
           have NB828_753 : Aside0 (gb828 ≠ gb753) := ⟨h16_⟩
           have NB774_828 : Aside0 (gb774 ≠ gb828) := ⟨h17_⟩
           have NB828_774 : Aside0 (gb828 ≠ gb774) := ⟨h18_⟩
           have NB780_828 : Aside0 (gb780 ≠ gb828) := ⟨h19_⟩
           have NB828_780 : Aside0 (gb828 ≠ gb780) := ⟨h20_⟩
           have NB795_828 : Aside0 (gb795 ≠ gb828) := ⟨h21_⟩
           have NB828_795 : Aside0 (gb828 ≠ gb795) := ⟨h22_⟩
           replace HB : Aside0 (Below w.heap.size w w145) := ⟨h23_⟩
           clear h0_ h1_ h2_ h3_ h4_ h5_ h6_ h7_ h8_ h9_ h10_ h11_ h12_ h13_ h14_ h15_ h16_ h17_ h18_ h19_ h20_ h21_ h22_ h23_
           have hHeld : w145.cell? ⟨gb752, 0, none⟩ = some (.int .i64 a0_0) ∧ w145.cell? ⟨gb752, 1, none⟩ = some (.int .i64 a0_1) ∧ w145.cell? ⟨gb752, 2, none⟩ = some (.slice A0_2 l0_2.length c0_2) ∧ w145.cell? ⟨gb753, 0, none⟩ = some (.int .i64 a1_0) ∧ w145.cell? ⟨gb753, 1, none⟩ = some (.int .i64 a1_1) ∧ w145.cell? ⟨gb753, 2, none⟩ = some (.int .i64 a1_2) ∧ w145.cell? ⟨gb753, 3, none⟩ = some (.int .i64 a1_3) ∧ w145.cell? ⟨gb753, 4, none⟩ = some (.int .i64 a1_4) ∧ w145.cell? ⟨gb753, 5, none⟩ = some (.int .i64 a1_5) ∧ w145.cell? ⟨gb753, 6, none⟩ = some (.int .i64 a1_6) ∧ w145.cell? ⟨gb753, 7, none⟩ = some (.int .i64 a1_7) := hS_
           obtain ⟨Ao148, co148, eo148⟩ := Kd.R_slice HO826.out
           (first | subst eo148 | (injection eo148 with f1_ f2_ f3_; have f4_ := f1_.symm; have f5_ := f3_.symm; clear f1_ f2_ f3_; subst f4_; subst f5_))
           refine norm_ (a' := ?_) ?_ ?_
           rotate_left
           ·simp only [putAll, Act.put, List.setIfInBounds_toArray, List.set_cons_zero, List.set_cons_succ]
            rfl
           refine one_ (i := 10) (N := none) #[true, true, true, true, true, true, true, true, true, true, true, false] rfl rfl (one_of HT_.out (by kernel_rfl)) (by decide) (fun K hK => ?_)
           have hs146 : w145.cell? ⟨gb828, 0, none⟩ = some (.int .i64 0) := bt BK828 rfl
           have hfs146 := blk_frozen BK828.out 0
           have hns146_0 := NB752_828.out
           have hns146_1 := NB753_828.out
           have hns146_2 := NB774_828.out
           have hns146_3 := NB780_828.out
           have hns146_4 := NB795_828.out
           have hms146_0 := NB828_752.out
           have hms146_1 := NB828_753.out
           have hms146_2 := NB828_774.out
           have hms146_3 := NB828_780.out
           have hms146_4 := NB828_795.out
           have hs147 : w145.cell? ⟨gb828, 1, none⟩ = some (.int .i64 0) := bt BK828 rfl
           have hfs147 := blk_frozen BK828.out 1
           have hns147_0 := NB752_828.out
           have hns147_1 := NB753_828.out
           have hns147_2 := NB774_828.out
           have hns147_3 := NB780_828.out
           have hns147_4 := NB795_828.out
           have hms147_0 := NB828_752.out
           have hms147_1 := NB828_753.out
           have hms147_2 := NB828_774.out
           have hms147_3 := NB828_780.out
           have hms147_4 := NB828_795.out
           have hs149 : w145.cell? ⟨gb828, 2, none⟩ = some (.slice none 0 0) := bt BK828 rfl
           have hfs149 := blk_frozen BK828.out 2
           have hns149_0 := NB752_828.out
           have hns149_1 := NB753_828.out
           have hns149_2 := NB774_828.out
           have hns149_3 := NB780_828.out
           have hns149_4 := NB795_828.out
           have hms149_0 := NB828_752.out
           have hms149_1 := NB828_753.out
           have hms149_2 := NB828_774.out
           have hms149_3 := NB828_780.out
           have hms149_4 := NB828_795.out
           refine skip_ (w1 := ?_) (by rfl) rfl ?_ ?_
           rotate_left
           ·go_simp
            rfl
           refine hK.out _ _ ⟨((cell_far (p := ⟨gb828, _, none⟩) NB752_828.out _).trans (((cell_far (p := ⟨gb828, _, none⟩) NB752_828.out _).trans (((cell_far (p := ⟨gb828, _, none⟩) NB752_828.out _).trans (hHeld.1)))))), ((cell_far (p := ⟨gb828, _, none⟩) NB752_828.out _).trans (((cell_far (p := ⟨gb828, _, none⟩) NB752_828.out _).trans (((cell_far (p := ⟨gb828, _, none⟩) NB752_828.out _).trans (hHeld.2.1)))))), ((cell_far (p := ⟨gb828, _, none⟩) NB752_828.out _).trans (((cell_far (p := ⟨gb828, _, none⟩) NB752_828.out _).trans (((cell_far (p := ⟨gb828, _, none⟩) NB752_828.out _).trans (hHeld.2.2.1)))))), ((cell_far (p := ⟨gb828, _, none⟩) NB753_828.out _).trans (((cell_far (p := ⟨gb828, _, none⟩) NB753_828.out _).trans (((cell_far (p := ⟨gb828, _, none⟩) NB753_828.out _).trans (hHeld.2.2.2.1)))))), ((cell_far (p := ⟨gb828, _, none⟩) NB753_828.out _).trans (((cell_far (p := ⟨gb828, _, none⟩) NB753_828.out _).trans (((cell_far (p := ⟨gb828, _, none⟩) NB753_828.out _).trans (hHeld.2.2.2.2.1)))))), ((cell_far (p := ⟨gb828, _, none⟩) NB753_828.out _).trans (((cell_far (p := ⟨gb828, _, none⟩) NB753_828.out _).trans (((cell_far (p := ⟨gb828, _, none⟩) NB753_828.out _).trans (hHeld.2.2.2.2.2.1)))))), ((cell_far (p := ⟨gb828, _, none⟩) NB753_828.out _).trans (((cell_far (p := ⟨gb828, _, none⟩) NB753_828.out _).trans (((cell_far (p := ⟨gb828, _, none⟩) NB753_828.out _).trans (hHeld.2.2.2.2.2.2.1)))))), ((cell_far (p := ⟨gb828, _, none⟩) NB753_828.out _).trans (((cell_far (p := ⟨gb828, _, none⟩) NB753_828.out _).trans (((cell_far (p := ⟨gb828, _, none⟩) NB753_828.out _).trans (hHeld.2.2.2.2.2.2.2.1)))))), ((cell_far (p := ⟨gb828, _, none⟩) NB753_828.out _).trans (((cell_far (p := ⟨gb828, _, none⟩) NB753_828.out _).trans (((cell_far (p := ⟨gb828, _, none⟩) NB753_828.out _).trans (hHeld.2.2.2.2.2.2.2.2.1)))))), ((cell_far (p := ⟨gb828, _, none⟩) NB753_828.out _).trans (((cell_far (p := ⟨gb828, _, none⟩) NB753_828.out _).trans (((cell_far (p := ⟨gb828, _, none⟩) NB753_828.out _).trans (hHeld.2.2.2.2.2.2.2.2.2.1)))))), ((cell_far (p := ⟨gb828, _, none⟩) NB753_828.out _).trans (((cell_far (p := ⟨gb828, _, none⟩) NB753_828.out _).trans (((cell_far (p := ⟨gb828, _, none⟩) NB753_828.out _).trans (hHeld.2.2.2.2.2.2.2.2.2.2))))))⟩ (fun hHeld => ?_)
           clear hK K
           refine pure_ (i := 11) (N := some 17) (v := ?_) (a' := ?_) #[true, true, true, true, true, true, true, true, true, true, true, true] rfl rfl (any_of HT_.out (by kernel_rfl)) (fun _ _ _ h => h) (Or.inl ⟨by rfl, ?_⟩) ?_ ?_
           rotate_left
           ·intro w'
            go_simp
            with_reducible rfl
           rotate_left
           ·simp only [Act.put, List.setIfInBounds_toArray, List.set_cons_zero, List.set_cons_succ, i64_w, i32_w]
            rfl
           refine done_ (done_of HT_.out (by kernel_rfl)) ?_
           go_upto_region 25 with (fail)
           go_cut [100] (fun v100 wc => ∃ (kq : Nat) (x100_129 : Bool), v100 = .bool x100_129 ∧ Aside0 (laws_FnExactRecDo.j2 kq t806 x100_129 t789 t790 t807 = some r) ∧ Aside0 (kq ≤ kj79) ∧ Aside0 (Kd.R (Kd.int .i64) 3 wc w.heap.size (fun k_ => some k_ ≠ ((.slice Ao42 t804.length co42) : Value).ownBlock ∧ some k_ ≠ ((.slice Ao51 t791.length co51) : Value).ownBlock ∧ some k_ ≠ ((.slice Ao148 t824.length co148) : Value).ownBlock) (.slice Ao32 t770.length co32) t770) ∧ Aside0 (Kd.R (Kd.int .i64) 3 wc w.heap.size (fun k_ => some k_ ≠ ((.slice Ao32 t770.length co32) : Value).ownBlock ∧ some k_ ≠ ((.slice Ao51 t791.length co51) : Value).ownBlock ∧ some k_ ≠ ((.slice Ao148 t824.length co148) : Value).ownBlock) (.slice Ao42 t804.length co42) t804) ∧ Aside0 (Kd.R (Kd.int .i64) 3 wc w.heap.size (fun k_ => some k_ ≠ ((.slice Ao32 t770.length co32) : Value).ownBlock ∧ some k_ ≠ ((.slice Ao42 t804.length co42) : Value).ownBlock ∧ some k_ ≠ ((.slice Ao148 t824.length co148) : Value).ownBlock) (.slice Ao51 t791.length co51) t807) ∧ Aside0 (Kd.R (Kd.int .i64) 3 wc w.heap.size (fun k_ => some k_ ≠ ((.slice Ao32 t770.length co32) : Value).ownBlock ∧ some k_ ≠ ((.slice Ao42 t804.length co42) : Value).ownBlock ∧ some k_ ≠ ((.slice Ao51 t791.length co51) : Value).ownBlock) (.slice Ao148 t824.length co148) t824) ∧ Aside0 (wc.heap[gb752]? = some (.cells #[.int .i64 a0_0, .int .i64 a0_1, (.slice A0_2 l0_2.length c0_2)] 57 (0, 0))) ∧ Aside0 (wc.heap[gb753]? = some (.cells #[.int .i64 a1_0, .int .i64 a1_1, .int .i64 a1_2, .int .i64 a1_3, .int .i64 a1_4, .int .i64 a1_5, .int .i64 a1_6, .int .i64 a1_7] 58 (0, 0))) ∧ Aside0 (wc.heap[gb774]? = some (.cells #[.int .i64 t768, .int .i64 t769, (.slice Ao32 t770.length co32)] 25 (0, 0))) ∧ Aside0 (wc.heap[gb780]? = some (.cells #[.int .i64 t775, .int .i64 t776, (.slice Ao42 t804.length co42)] 25 (0, 0))) ∧ Aside0 (wc.heap[gb795]? = some (.cells #[.int .i64 t789, .int .i64 t790, (.slice Ao51 t791.length co51)] 25 (0, 0))) ∧ Aside0 (wc.heap[gb828]? = some (.cells #[.int .i64 t822, .int .i64 t823, (.slice Ao148 t824.length co148)] 25 (0, 0))) ∧ Aside0 (Below w.heap.size w wc))
           case first =>
            have H := HC130.out
            clear HC130
            replace H := Option.bind_eq_some_iff.mp H
            obtain ⟨t829, A1500, H⟩ := H
            replace H : (if t829 = true then (laws_FnExactRecDo.j2 kj79 t806 (t827 != t773) t789 t790 t807) else (laws_FnExactRecDo.j2 kj79 t806 true t789 t790 t807)) = some r := H
            have A150 := az A1500
            clear A1500
            by_cases c151 : t829 = true
            ·subst c151
             have H1 : (laws_FnExactRecDo.j2 kj79 t806 (t827 != t773) t789 t790 t807) = some r := by rw [if_pos rfl] at H; exact H
             clear H
             have H := H1
             clear H1
             have H' := az H
             clear H
             have hnb152 := NB828_752.out
             have hnc152 := NB752_828.out
             have hnb153 := NB828_753.out
             have hnc153 := NB753_828.out
             have hnb154 := NB828_774.out
             have hnc154 := NB774_828.out
             have hnb155 := NB828_780.out
             have hnc155 := NB780_828.out
             have hnb156 := NB828_795.out
             have hnc156 := NB795_828.out
             obtain ⟨hcz157_0, hcz157_1, hcz157_2⟩ := cz3 BK828
             obtain ⟨hfz157_0, hfz157_1, hfz157_2⟩ := fz3 BK828
             have hnb158 := NB774_752.out
             have hnc158 := NB752_774.out
             have hnb159 := NB774_753.out
             have hnc159 := NB753_774.out
             have hnb160 := NB774_780.out
             have hnc160 := NB780_774.out
             have hnb161 := NB774_795.out
             have hnc161 := NB795_774.out
             obtain ⟨hcz162_0, hcz162_1, hcz162_2⟩ := cz3 BK774
             obtain ⟨hfz162_0, hfz162_1, hfz162_2⟩ := fz3 BK774
             go_wp2_with (first | ((with_reducible refine gate_callee (f := 53) rfl ?_); refine goesL_ (some 94) rfl rfl Try.func53 (by kernel_rfl) rfl #[.agg #[.int .i64 t822, .int .i64 t823, .slice Ao148 t824.length co148], .agg #[.int .i64 t768, .int .i64 t769, .slice Ao32 t770.length co32]] rfl (by (try simp only [List.map_toArray, List.map_cons, List.map_nil]); first | done | rfl | (simp only [List.length_drop, List.length_take]; rfl)) ?_; (with_reducible refine (laws_eqPage.calls kj79 t822 t823 _ _ t824 t768 t769 _ _ t770 true _ ?side1 ?side2 ?side3 ?side4 A150.out).mono ?_); (case side1 => refine (Kd.R_reads' (e := 3) (base := w.heap.size) (ok := fun k_ => (some k_ ≠ (v812 : Value).ownBlock ∧ (some k_ ≠ (.slice Ao32 t770.length co32 : Value).ownBlock ∧ (some k_ ≠ (.slice Ao42 t804.length co42 : Value).ownBlock ∧ some k_ ≠ (.slice Ao51 t791.length co51 : Value).ownBlock)))) (n := t824.length) (c := co148) ?_).2.2; exact (by (with_reducible repeat (first | apply Kd.R_alloc | apply Kd.R_drewN | apply Kd.R_drew)); exact (fR3 HO826.out BK828.out (by decide)))); (case side2 => exact (Kd.R_reads' HO826.out).2.1); (case side3 => refine (Kd.R_reads' (e := 3) (base := w.heap.size) (ok := fun k_ => (some k_ ≠ (v812 : Value).ownBlock ∧ (some k_ ≠ (.slice Ao148 t824.length co148 : Value).ownBlock ∧ (some k_ ≠ (.slice Ao42 t804.length co42 : Value).ownBlock ∧ some k_ ≠ (.slice Ao51 t791.length co51 : Value).ownBlock)))) (n := t770.length) (c := co32) ?_).2.2; exact (by (with_reducible repeat (first | apply Kd.R_alloc | apply Kd.R_drewN | apply Kd.R_drew)); exact (fR3 HO_775002.out BK828.out (by decide)))); (case side4 => exact (Kd.R_reads' HO_775002.out).2.1); rintro e w163 ⟨rfl, hb⟩; refine ⟨_, rfl, ?_⟩; replace HO_775002 := az (Kd.R_below (by (with_reducible repeat (first | apply Kd.R_alloc | apply Kd.R_drewN | apply Kd.R_drew)); exact (fR3 HO_775002.out BK828.out (by decide))) hb); replace HO_781002 := az (Kd.R_below (by (with_reducible repeat (first | apply Kd.R_alloc | apply Kd.R_drewN | apply Kd.R_drew)); exact (fR3 HO_781002.out BK828.out (by decide))) hb); replace HO_796002 := az (Kd.R_below (by (with_reducible repeat (first | apply Kd.R_alloc | apply Kd.R_drewN | apply Kd.R_drew)); exact (fR3 HO_796002.out BK828.out (by decide))) hb); replace HO813 := az (Kd.R_below (by (with_reducible repeat (first | apply Kd.R_alloc | apply Kd.R_drewN | apply Kd.R_drew)); exact (fR3 HO813.out BK828.out (by decide))) hb); replace HO826 := az (Kd.R_below (by (with_reducible repeat (first | apply Kd.R_alloc | apply Kd.R_drewN | apply Kd.R_drew)); exact (fR3 HO826.out BK828.out (by decide))) hb); replace BK752 := az (blk_below (g := gb752) (o := .cells #[.int .i64 a0_0, .int .i64 a0_1, .slice A0_2 l0_2.length c0_2] 57 (0, 0)) (by (repeat (first | (with_reducible first | apply bn | apply bd | apply ba) | apply bf NB752_828)); exact BK752.out) hb); replace BK753 := az (blk_below (g := gb753) (o := .cells #[.int .i64 a1_0, .int .i64 a1_1, .int .i64 a1_2, .int .i64 a1_3, .int .i64 a1_4, .int .i64 a1_5, .int .i64 a1_6, .int .i64 a1_7] 58 (0, 0)) (by (repeat (first | (with_reducible first | apply bn | apply bd | apply ba) | apply bf NB753_828)); exact BK753.out) hb); replace BK774 := az (blk_below (g := gb774) (o := .cells #[.int .i64 t768, .int .i64 t769, .slice Ao32 t770.length co32] 25 (0, 0)) (by (repeat (first | (with_reducible first | apply bn | apply bd | apply ba) | apply bf NB774_828)); exact BK774.out) hb); replace BK780 := az (blk_below (g := gb780) (o := .cells #[.int .i64 t775, .int .i64 t776, .slice Ao42 t804.length co42] 25 (0, 0)) (by (repeat (first | (with_reducible first | apply bn | apply bd | apply ba) | apply bf NB780_828)); exact BK780.out) hb); replace BK795 := az (blk_below (g := gb795) (o := .cells #[.int .i64 t789, .int .i64 t790, .slice Ao51 t791.length co51] 25 (0, 0)) (by (repeat (first | (with_reducible first | apply bn | apply bd | apply ba) | apply bf NB795_828)); exact BK795.out) hb); replace BK828 := az (blk_below (g := gb828) (o := .cells #[.int .i64 t822, .int .i64 t823, .slice Ao148 t824.length co148] 25 (0, 0)) (by (with_reducible repeat (first | apply bn | apply bd | apply ba)); exact p3 BK828) hb); replace HB := az (below_step (by repeat (first | (with_reducible first | exact HB.out | apply wa | apply wn | apply wd | refine ws ‹_› ?_) | exact HB.out)) hb); (try clear hb); (try clear hb2); (try clear hk); (try clear hi)))
             go_meet
             case rel => exact ⟨_, ((t827 != t773)), (by first | rfl | (simp; done) | (simp [*]; done)), H', ⟨by have := HJ16.out; have := HJ79.out; first | omega | exact Nat.le_refl _⟩, ⟨by (try simp only [hl781002_79]); (with_reducible repeat (first | apply Kd.R_alloc | apply Kd.R_drewN | apply Kd.R_drew)); exact Kd.R_mono HO_775002.out (fun _ hk => ⟨hk.2.2.1, ⟨hk.2.2.2, hk.2.1⟩⟩)⟩, ⟨by (try simp only [hl781002_79]); (with_reducible repeat (first | apply Kd.R_alloc | apply Kd.R_drewN | apply Kd.R_drew)); exact Kd.R_mono HO_781002.out (fun _ hk => ⟨hk.2.2.1, ⟨hk.2.2.2, hk.2.1⟩⟩)⟩, ⟨by (try simp only [hl781002_79]); (with_reducible repeat (first | apply Kd.R_alloc | apply Kd.R_drewN | apply Kd.R_drew)); exact Kd.R_mono HO_796002.out (fun _ hk => ⟨hk.2.2.1, ⟨hk.2.2.2, hk.2.1⟩⟩)⟩, ⟨by (try simp only [hl781002_79]); (with_reducible repeat (first | apply Kd.R_alloc | apply Kd.R_drewN | apply Kd.R_drew)); exact Kd.R_mono HO826.out (fun _ hk => ⟨hk.2.1, ⟨hk.2.2.1, hk.2.2.2⟩⟩)⟩, ⟨by (try simp only [hl781002_79]); (with_reducible repeat (first | apply bn | apply bd | apply ba)); exact BK752.out⟩, ⟨by (try simp only [hl781002_79]); (with_reducible repeat (first | apply bn | apply bd | apply ba)); exact BK753.out⟩, ⟨by (try simp only [hl781002_79]); (with_reducible repeat (first | apply bn | apply bd | apply ba)); exact BK774.out⟩, ⟨by (try simp only [hl781002_79]); (with_reducible repeat (first | apply bn | apply bd | apply ba)); exact BK780.out⟩, ⟨by (try simp only [hl781002_79]); (with_reducible repeat (first | apply bn | apply bd | apply ba)); exact BK795.out⟩, ⟨by (try simp only [hl781002_79]); (with_reducible repeat (first | apply bn | apply bd | apply ba)); exact BK828.out⟩, ⟨by repeat (first | (with_reducible first | exact HB.out | apply wa | apply wn | apply wd | refine ws ‹_› ?_) | exact HB.out)⟩⟩
            ·replace c151 := Bool.eq_false_iff.mpr c151
             subst c151
             have H1 : (laws_FnExactRecDo.j2 kj79 t806 true t789 t790 t807) = some r := by rw [if_neg (show ¬ (false = true) by decide)] at H; exact H
             clear H
             have H := H1
             clear H1
             have H' := az H
             clear H
             have hnb164 := NB828_752.out
             have hnc164 := NB752_828.out
             have hnb165 := NB828_753.out
             have hnc165 := NB753_828.out
             have hnb166 := NB828_774.out
             have hnc166 := NB774_828.out
             have hnb167 := NB828_780.out
             have hnc167 := NB780_828.out
             have hnb168 := NB828_795.out
             have hnc168 := NB795_828.out
             obtain ⟨hcz169_0, hcz169_1, hcz169_2⟩ := cz3 BK828
             obtain ⟨hfz169_0, hfz169_1, hfz169_2⟩ := fz3 BK828
             have hnb170 := NB774_752.out
             have hnc170 := NB752_774.out
             have hnb171 := NB774_753.out
             have hnc171 := NB753_774.out
             have hnb172 := NB774_780.out
             have hnc172 := NB780_774.out
             have hnb173 := NB774_795.out
             have hnc173 := NB795_774.out
             obtain ⟨hcz174_0, hcz174_1, hcz174_2⟩ := cz3 BK774
             obtain ⟨hfz174_0, hfz174_1, hfz174_2⟩ := fz3 BK774
             go_wp2_with (first | ((with_reducible refine gate_callee (f := 53) rfl ?_); refine goesL_ (some 94) rfl rfl Try.func53 (by kernel_rfl) rfl #[.agg #[.int .i64 t822, .int .i64 t823, .slice Ao148 t824.length co148], .agg #[.int .i64 t768, .int .i64 t769, .slice Ao32 t770.length co32]] rfl (by (try simp only [List.map_toArray, List.map_cons, List.map_nil]); first | done | rfl | (simp only [List.length_drop, List.length_take]; rfl)) ?_; (with_reducible refine (laws_eqPage.calls kj79 t822 t823 _ _ t824 t768 t769 _ _ t770 false _ ?side1 ?side2 ?side3 ?side4 A150.out).mono ?_); (case side1 => refine (Kd.R_reads' (e := 3) (base := w.heap.size) (ok := fun k_ => (some k_ ≠ (v812 : Value).ownBlock ∧ (some k_ ≠ (.slice Ao32 t770.length co32 : Value).ownBlock ∧ (some k_ ≠ (.slice Ao42 t804.length co42 : Value).ownBlock ∧ some k_ ≠ (.slice Ao51 t791.length co51 : Value).ownBlock)))) (n := t824.length) (c := co148) ?_).2.2; exact (by (with_reducible repeat (first | apply Kd.R_alloc | apply Kd.R_drewN | apply Kd.R_drew)); exact (fR3 HO826.out BK828.out (by decide)))); (case side2 => exact (Kd.R_reads' HO826.out).2.1); (case side3 => refine (Kd.R_reads' (e := 3) (base := w.heap.size) (ok := fun k_ => (some k_ ≠ (v812 : Value).ownBlock ∧ (some k_ ≠ (.slice Ao148 t824.length co148 : Value).ownBlock ∧ (some k_ ≠ (.slice Ao42 t804.length co42 : Value).ownBlock ∧ some k_ ≠ (.slice Ao51 t791.length co51 : Value).ownBlock)))) (n := t770.length) (c := co32) ?_).2.2; exact (by (with_reducible repeat (first | apply Kd.R_alloc | apply Kd.R_drewN | apply Kd.R_drew)); exact (fR3 HO_775002.out BK828.out (by decide)))); (case side4 => exact (Kd.R_reads' HO_775002.out).2.1); rintro e w175 ⟨rfl, hb⟩; refine ⟨_, rfl, ?_⟩; replace HO_775002 := az (Kd.R_below (by (with_reducible repeat (first | apply Kd.R_alloc | apply Kd.R_drewN | apply Kd.R_drew)); exact (fR3 HO_775002.out BK828.out (by decide))) hb); replace HO_781002 := az (Kd.R_below (by (with_reducible repeat (first | apply Kd.R_alloc | apply Kd.R_drewN | apply Kd.R_drew)); exact (fR3 HO_781002.out BK828.out (by decide))) hb); replace HO_796002 := az (Kd.R_below (by (with_reducible repeat (first | apply Kd.R_alloc | apply Kd.R_drewN | apply Kd.R_drew)); exact (fR3 HO_796002.out BK828.out (by decide))) hb); replace HO813 := az (Kd.R_below (by (with_reducible repeat (first | apply Kd.R_alloc | apply Kd.R_drewN | apply Kd.R_drew)); exact (fR3 HO813.out BK828.out (by decide))) hb); replace HO826 := az (Kd.R_below (by (with_reducible repeat (first | apply Kd.R_alloc | apply Kd.R_drewN | apply Kd.R_drew)); exact (fR3 HO826.out BK828.out (by decide))) hb); replace BK752 := az (blk_below (g := gb752) (o := .cells #[.int .i64 a0_0, .int .i64 a0_1, .slice A0_2 l0_2.length c0_2] 57 (0, 0)) (by (repeat (first | (with_reducible first | apply bn | apply bd | apply ba) | apply bf NB752_828)); exact BK752.out) hb); replace BK753 := az (blk_below (g := gb753) (o := .cells #[.int .i64 a1_0, .int .i64 a1_1, .int .i64 a1_2, .int .i64 a1_3, .int .i64 a1_4, .int .i64 a1_5, .int .i64 a1_6, .int .i64 a1_7] 58 (0, 0)) (by (repeat (first | (with_reducible first | apply bn | apply bd | apply ba) | apply bf NB753_828)); exact BK753.out) hb); replace BK774 := az (blk_below (g := gb774) (o := .cells #[.int .i64 t768, .int .i64 t769, .slice Ao32 t770.length co32] 25 (0, 0)) (by (repeat (first | (with_reducible first | apply bn | apply bd | apply ba) | apply bf NB774_828)); exact BK774.out) hb); replace BK780 := az (blk_below (g := gb780) (o := .cells #[.int .i64 t775, .int .i64 t776, .slice Ao42 t804.length co42] 25 (0, 0)) (by (repeat (first | (with_reducible first | apply bn | apply bd | apply ba) | apply bf NB780_828)); exact BK780.out) hb); replace BK795 := az (blk_below (g := gb795) (o := .cells #[.int .i64 t789, .int .i64 t790, .slice Ao51 t791.length co51] 25 (0, 0)) (by (repeat (first | (with_reducible first | apply bn | apply bd | apply ba) | apply bf NB795_828)); exact BK795.out) hb); replace BK828 := az (blk_below (g := gb828) (o := .cells #[.int .i64 t822, .int .i64 t823, .slice Ao148 t824.length co148] 25 (0, 0)) (by (with_reducible repeat (first | apply bn | apply bd | apply ba)); exact p3 BK828) hb); replace HB := az (below_step (by repeat (first | (with_reducible first | exact HB.out | apply wa | apply wn | apply wd | refine ws ‹_› ?_) | exact HB.out)) hb); (try clear hb); (try clear hb2); (try clear hk); (try clear hi)))
             go_meet
             case rel => exact ⟨_, (true), (by first | rfl | (simp; done) | (simp [*]; done)), H', ⟨by have := HJ16.out; have := HJ79.out; first | omega | exact Nat.le_refl _⟩, ⟨by (try simp only [hl781002_79]); (with_reducible repeat (first | apply Kd.R_alloc | apply Kd.R_drewN | apply Kd.R_drew)); exact Kd.R_mono HO_775002.out (fun _ hk => ⟨hk.2.2.1, ⟨hk.2.2.2, hk.2.1⟩⟩)⟩, ⟨by (try simp only [hl781002_79]); (with_reducible repeat (first | apply Kd.R_alloc | apply Kd.R_drewN | apply Kd.R_drew)); exact Kd.R_mono HO_781002.out (fun _ hk => ⟨hk.2.2.1, ⟨hk.2.2.2, hk.2.1⟩⟩)⟩, ⟨by (try simp only [hl781002_79]); (with_reducible repeat (first | apply Kd.R_alloc | apply Kd.R_drewN | apply Kd.R_drew)); exact Kd.R_mono HO_796002.out (fun _ hk => ⟨hk.2.2.1, ⟨hk.2.2.2, hk.2.1⟩⟩)⟩, ⟨by (try simp only [hl781002_79]); (with_reducible repeat (first | apply Kd.R_alloc | apply Kd.R_drewN | apply Kd.R_drew)); exact Kd.R_mono HO826.out (fun _ hk => ⟨hk.2.1, ⟨hk.2.2.1, hk.2.2.2⟩⟩)⟩, ⟨by (try simp only [hl781002_79]); (with_reducible repeat (first | apply bn | apply bd | apply ba)); exact BK752.out⟩, ⟨by (try simp only [hl781002_79]); (with_reducible repeat (first | apply bn | apply bd | apply ba)); exact BK753.out⟩, ⟨by (try simp only [hl781002_79]); (with_reducible repeat (first | apply bn | apply bd | apply ba)); exact BK774.out⟩, ⟨by (try simp only [hl781002_79]); (with_reducible repeat (first | apply bn | apply bd | apply ba)); exact BK780.out⟩, ⟨by (try simp only [hl781002_79]); (with_reducible repeat (first | apply bn | apply bd | apply ba)); exact BK795.out⟩, ⟨by (try simp only [hl781002_79]); (with_reducible repeat (first | apply bn | apply bd | apply ba)); exact BK828.out⟩, ⟨by repeat (first | (with_reducible first | exact HB.out | apply wa | apply wn | apply wd | refine ws ‹_› ?_) | exact HB.out)⟩⟩
           case rest =>
            clear HC130;(try clear c1);(try clear p2);(try clear c4);(try clear c5);(try clear c15);(try clear c16);(try clear c17);(try clear c42);(try clear c51);(try clear c52);(try clear c53);(try clear c151);(try clear c152);(try clear c153);(try clear c154);(try clear c155);(try clear c156);(try clear c158);(try clear c159);(try clear c160);(try clear c161);(try clear c164);(try clear c165);(try clear c166);(try clear c167);(try clear c168);(try clear c170);(try clear c171);(try clear c172);(try clear c173);(try clear hcz157_0);(try clear hcz157_1);(try clear hcz157_2);(try clear hcz162_0);(try clear hcz162_1);(try clear hcz162_2);(try clear hcz169_0);(try clear hcz169_1);(try clear hcz169_2);(try clear hcz174_0);(try clear hcz174_1);(try clear hcz174_2);(try clear hfz157_0);(try clear hfz157_1);(try clear hfz157_2);(try clear hfz162_0);(try clear hfz162_1);(try clear hfz162_2);(try clear hfz169_0);(try clear hfz169_1);(try clear hfz169_2);(try clear hfz174_0);(try clear hfz174_1);(try clear hfz174_2)
            obtain ⟨kq, x100_129, rfl, HA, HJ129, HO_775002, HO_781002, HO_796002, HO_829002, BK752, BK753, BK774, BK780, BK795, BK828, HB⟩ := hcut
            have hl796002_129 := (Kd.R_reads' HO_796002.out).1
            rw [hl796002_129] at HO_796002
            (try simp only [hl796002_129])
            (try simp only [hl796002_129] at BK752)
            (try simp only [hl796002_129] at BK753)
            (try simp only [hl796002_129] at BK774)
            (try simp only [hl796002_129] at BK780)
            (try simp only [hl796002_129] at BK795)
            (try simp only [hl796002_129] at BK828)
            (try simp only [hl796002_129] at HO_775002)
            (try simp only [hl796002_129] at HO_781002)
            (try simp only [hl796002_129] at HO_829002)
            cases kq with
            | zero => exact absurd HA.out (by simp [laws_FnExactRecDo.j2])
            | succ kj129 =>
             have H := HA.out
             clear HA
             simp only [laws_FnExactRecDo.j2] at H
             by_cases c176 : x100_129 = true
             ·subst c176
              have H1 : (some false) = some r := by rw [if_pos rfl] at H; exact H
              clear H
              have H := H1
              clear H1
              obtain rfl := Option.some.inj H
              exact absurd hT_.out (by simp)
             ·replace c176 := Bool.eq_false_iff.mpr c176
              subst c176
              have H1 : ((laws_heldPage.f kj129 t789 t790 t807 1).bind fun t830 => (if t830 < 0 then (some false) else (if t830 = t806 then (some true) else (some false)))) = some r := by rw [if_neg (show ¬ (false = true) by decide)] at H; exact H
              clear H
              have H := H1
              clear H1
              replace H := Option.bind_eq_some_iff.mp H
              obtain ⟨t830, A1770, H⟩ := H
              replace H : (if t830 < 0 then (some false) else (if t830 = t806 then (some true) else (some false))) = some r := H
              have A177 := az A1770
              clear A1770
              by_cases c178 : t830 < 0
              ·rw [if_pos c178] at H
               have c178b0 : decide (t830 < 0) = true := decide_eq_true c178
               clear c178
               obtain rfl := Option.some.inj H
               exact absurd hT_.out (by simp)
              ·rw [if_neg c178] at H
               have c178b0 : decide (t830 < 0) = false := decide_eq_false c178
               clear c178
               by_cases c186 : t830 = t806
               ·rw [if_pos c186] at H
                have c186b0 : (t830 == t806) = true := beq_iff_eq.mpr c186
                have c186b1 : (t830 != t806) = false := bne_eq_false_iff_eq.mpr c186
                clear c186
                obtain rfl := Option.some.inj H
                have hnb187 := NB795_752.out
                have hnc187 := NB752_795.out
                have hnb188 := NB795_753.out
                have hnc188 := NB753_795.out
                have hnb189 := NB795_774.out
                have hnc189 := NB774_795.out
                have hnb190 := NB795_780.out
                have hnc190 := NB780_795.out
                have hnb191 := NB795_828.out
                have hnc191 := NB828_795.out
                obtain ⟨hcz192_0, hcz192_1, hcz192_2⟩ := cz3 BK795
                obtain ⟨hfz192_0, hfz192_1, hfz192_2⟩ := fz3 BK795
                go_wp2_with (first | ((with_reducible refine gate_callee (f := 55) rfl ?_); refine goesL_ (some 103) rfl rfl Try.func55 (by kernel_rfl) rfl #[.agg #[.int .i64 t789, .int .i64 t790, .slice Ao51 t807.length co51], .int .i64 1] rfl (by (try simp only [List.map_toArray, List.map_cons, List.map_nil]); first | done | rfl | (simp only [List.length_drop, List.length_take]; rfl)) ?_; (with_reducible refine (laws_heldPage.calls kj129 t789 t790 _ _ t807 1 t830 _ ?side1 ?side2 A177.out).mono ?_); (case side1 => repeat (first | exact (Kd.R_reads' HO_796002.out).2.2 | (with_reducible refine Kd.C_alloc ?_ _) | (with_reducible refine Kd.C_drewN ?_ _) | (with_reducible refine Kd.C_drew ?_))); (case side2 => exact (Kd.R_reads' HO_796002.out).2.1); rintro e w193 ⟨rfl, hb⟩; refine ⟨_, rfl, ?_⟩; replace HO_775002 := az (Kd.R_below (by (with_reducible repeat (first | apply Kd.R_alloc | apply Kd.R_drewN | apply Kd.R_drew)); exact HO_775002.out) hb); replace HO_781002 := az (Kd.R_below (by (with_reducible repeat (first | apply Kd.R_alloc | apply Kd.R_drewN | apply Kd.R_drew)); exact HO_781002.out) hb); replace HO_796002 := az (Kd.R_below (by (with_reducible repeat (first | apply Kd.R_alloc | apply Kd.R_drewN | apply Kd.R_drew)); exact HO_796002.out) hb); replace HO_829002 := az (Kd.R_below (by (with_reducible repeat (first | apply Kd.R_alloc | apply Kd.R_drewN | apply Kd.R_drew)); exact HO_829002.out) hb); replace BK752 := bb BK752 (fun h => by (with_reducible repeat (first | apply bn | apply bd | apply ba)); exact h) hb; replace BK753 := bb BK753 (fun h => by (with_reducible repeat (first | apply bn | apply bd | apply ba)); exact h) hb; replace BK774 := bb BK774 (fun h => by (with_reducible repeat (first | apply bn | apply bd | apply ba)); exact h) hb; replace BK780 := bb BK780 (fun h => by (with_reducible repeat (first | apply bn | apply bd | apply ba)); exact h) hb; replace BK795 := bb BK795 (fun h => by (with_reducible repeat (first | apply bn | apply bd | apply ba)); exact h) hb; replace BK828 := bb BK828 (fun h => by (with_reducible repeat (first | apply bn | apply bd | apply ba)); exact h) hb; replace HB := az (below_step (by repeat (first | (with_reducible first | exact HB.out | apply wa | apply wn | apply wd | refine ws ‹_› ?_) | exact HB.out)) hb); (try clear hb); (try clear hb2); (try clear hk); (try clear hi)))
                go_ret
                exact ⟨by first | rfl | (simp [errW_none, errW_some] <;> rfl) | (simp [*, errW_none, errW_some] <;> rfl), by repeat (first | (with_reducible first | exact HB.out | apply wa | apply wn | apply wd | refine ws ‹_› ?_) | exact HB.out)⟩
               ·rw [if_neg c186] at H
                have c186b0 : (t830 == t806) = false := beq_eq_false_iff_ne.mpr c186
                have c186b1 : (t830 != t806) = true := bne_iff_ne.mpr c186
                obtain rfl := Option.some.inj H
                exact absurd hT_.out (by simp)
          ·rw [if_neg c126] at H
           have c126b0 : (t808 == t806) = false := beq_eq_false_iff_ne.mpr c126
           have c126b1 : (t808 != t806) = true := bne_iff_ne.mpr c126
           obtain rfl := Option.some.inj H
           exact absurd hT_.out (by simp)
     ·replace c78 := Bool.eq_false_iff.mpr c78
      subst c78
      have H1 : (some false) = some r := by rw [if_neg (show ¬ (false = true) by decide)] at H; exact H
      clear H
      have H := H1
      clear H1
      obtain rfl := Option.some.inj H
      exact absurd hT_.out (by simp)
end Go.Proofs.Ytcefiblpnegepaa.Pr
