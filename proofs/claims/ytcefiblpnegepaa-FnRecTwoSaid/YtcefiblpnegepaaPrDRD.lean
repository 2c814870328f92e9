-- Laid by a program (extract.py) out of this seat's translation: contracts of a few functions, a text a function; Lean checks them.
import Derived.Test.YtcefiblpnegepaaPrK
import Derived.Test.YtcefiblpnegepaaPrPg
import Derived.Test.YtcefiblpnegepaaPrL71
import Derived.Test.YtcefiblpnegepaaSq
namespace Go.Proofs.Ytcefiblpnegepaa.Pr
open Go.RowKit Go.Proofs.YtcefiblpnegepaaW.PrintWords Go.Proofs.YtcefiblpnegepaaW.PrintLast Go.Proofs.YtcefiblpnegepaaW.PrintMore
attribute [local go_sem] max2_int min2_int max_two min_two max_three min_three max_four min_four
set_option linter.unusedVariables false
set_option linter.unusedSimpArgs false
/-! ### spec_DrawRecDo: function 56 -/
def spec_DrawRecDo.f (k : Nat) (l0 : List Int) : Option (Int × Int × List Int × Int × Int × Int × Int × Int × Int × Int × Int × Int) := (spec_l6Open.f l0).bind fun bt833 => ((spec_l71Page.f k bt833.1 bt833.2).bind fun bt836 => ((spec_l71Rec.f k bt833.1 bt836.2.2.2).bind fun bt843 => ((spec_l6Rd_pick.f k bt833.1 bt843.2.2.2.2.2.2.2.2 2).bind fun bt853 => (if bt853.1 = 0 then ((spec_l6Rd_pick.f k bt833.1 bt853.2 5).bind fun bt855 => ((spec_l6Rd_pick.f k bt833.1 bt855.2 3).bind fun bt857 => ((spec_l6Rd_pick.f k bt833.1 bt857.2 3).bind fun bt859 => ((spec_l6Rd_pick.f k bt833.1 bt859.2 10).bind fun bt861 => ((spec_l6Rd_pick.f k bt833.1 bt861.2 6).bind fun bt863 => ((spec_l6Rd_pick.f k bt833.1 bt863.2 24).bind fun bt865 => (some (bt836.1, bt836.2.1, bt836.2.2.1, 1, 1, bt855.1, bt857.1, bt859.1, bt861.1, 0, 0, wrap64 ((wrap64 ((wrap64 (bt836.1 + 1)) + bt863.1)) - (wrap64 ((wrap64 (Int.tdiv bt865.1 23)) * 8))))))))))) else ((spec_l6Rd_pick.f k bt833.1 bt853.2 6).bind fun bt867 => ((spec_l6Rd_pick.f k bt833.1 bt867.2 24).bind fun bt869 => (some (bt836.1, bt836.2.1, bt836.2.2.1, bt843.1, bt843.2.1, bt843.2.2.1, bt843.2.2.2.1, bt843.2.2.2.2.1, bt843.2.2.2.2.2.1, bt843.2.2.2.2.2.2.1, bt843.2.2.2.2.2.2.2.1, wrap64 ((wrap64 ((wrap64 (bt836.1 + 1)) + bt867.1)) - (wrap64 ((wrap64 (Int.tdiv bt869.1 23)) * 8)))))))))))
theorem spec_DrawRecDo.mono : ∀ a0 k, LeO (spec_DrawRecDo.f k a0) (spec_DrawRecDo.f (k + 1) a0) := by
  intro a0 k
  unfold spec_DrawRecDo.f
  repeat' first
      | (with_reducible exact spec_l6Rd_pick.mono _ _ _ _)
      | (with_reducible exact spec_l71Page.mono _ _ _)
      | (with_reducible exact spec_l71Rec.mono _ _ _)
      | (with_reducible exact LeO.refl _)
      | (with_reducible exact LeO.none _)
      | (with_reducible refine LeO.ite ?_ ?_)
      | (with_reducible refine LeO.bind ?_ (fun _ => ?_))
      | exact spec_l6Rd_pick.mono _ _ _ _
      | exact spec_l71Page.mono _ _ _
      | exact spec_l71Rec.mono _ _ _
      | exact LeO.none _
      | refine LeO.ite ?_ ?_
      | refine LeO.bind ?_ (fun _ => ?_)
def spec_DrawRecDo.T6 : Bool × List (List Nat × List Nat) := (true, [([], []), ([], []), ([], []), ([2], [2]), ([3], [3]), ([], []), ([5], [5]), ([4, 6], [4, 6]), ([], []), ([8, 6], [8]), ([9], [9]), ([10], [10]), ([7, 11], [7, 11]), ([0, 9, 0], [0]), ([1, 13, 0, 1, 13], [1]), ([12, 14, 0, 1, 2, 3, 4, 5, 6, 7, 8, 9, 10, 11, 12, 13, 14], [12])])
def spec_DrawRecDo.B6 : List Nat := [0, 0, 0, 4, 12, 0, 32, 124, 0, 352, 864, 1888, 4092, 865, 9059, 32767]
theorem spec_DrawRecDo.tab6 : rtab .any (opsOf Try.f56 6) = spec_DrawRecDo.T6 := by kernel_rfl
theorem spec_DrawRecDo.bits6 : waitsOk spec_DrawRecDo.T6.2 spec_DrawRecDo.B6 = true := by kernel_rfl
set_option maxHeartbeats 8000000 in
set_option maxRecDepth 100000 in
theorem spec_DrawRecDo.calls (k : Nat) (A0 : Option Addr) (c0 : Nat) (l0 : List Int) (r1 : Int) (r2 : Int) (r3 : List Int) (r4 : Int) (r5 : Int) (r6 : Int) (r7 : Int) (r8 : Int) (r9 : Int) (r10 : Int) (r11 : Int) (r12 : Int) (w : World) (hr0 : Kd.C (Kd.int .u8) w A0 l0.length l0) (hc0 : l0.length ≤ c0) (h : spec_DrawRecDo.f k l0 = some (r1, r2, r3, r4, r5, r6, r7, r8, r9, r10, r11, r12)) :
    Calls Try.prog 56 #[.slice A0 l0.length c0] w fun e w' => ∃ v2_ : Value, e = .returned (.tuple #[.agg #[.int .i64 r1, .int .i64 r2, v2_], .agg #[.int .i64 r4, .int .i64 r5, .int .i64 r6, .int .i64 r7, .int .i64 r8, .int .i64 r9, .int .i64 r10, .int .i64 r11], .int .i64 r12]) ∧ Kd.Q (Kd.int .i64) 3 w' w.heap.size (fun _ => True) v2_ r3 ∧ Below w.heap.size w w' := by
  have hu25 := Try.underlying25
  have hu41 := Try.underlying41
  have HR0 := az hr0
  have HC0 := az hc0
  clear hr0 hc0
  have HB := az (Below.refl w.heap.size w)
  have H : ((spec_l6Open.f l0).bind fun bt833 => ((spec_l71Page.f k bt833.1 bt833.2).bind fun bt836 => ((spec_l71Rec.f k bt833.1 bt836.2.2.2).bind fun bt843 => ((spec_l6Rd_pick.f k bt833.1 bt843.2.2.2.2.2.2.2.2 2).bind fun bt853 => (if bt853.1 = 0 then ((spec_l6Rd_pick.f k bt833.1 bt853.2 5).bind fun bt855 => ((spec_l6Rd_pick.f k bt833.1 bt855.2 3).bind fun bt857 => ((spec_l6Rd_pick.f k bt833.1 bt857.2 3).bind fun bt859 => ((spec_l6Rd_pick.f k bt833.1 bt859.2 10).bind fun bt861 => ((spec_l6Rd_pick.f k bt833.1 bt861.2 6).bind fun bt863 => ((spec_l6Rd_pick.f k bt833.1 bt863.2 24).bind fun bt865 => (some (bt836.1, bt836.2.1, bt836.2.2.1, 1, 1, bt855.1, bt857.1, bt859.1, bt861.1, 0, 0, wrap64 ((wrap64 ((wrap64 (bt836.1 + 1)) + bt863.1)) - (wrap64 ((wrap64 (Int.tdiv bt865.1 23)) * 8))))))))))) else ((spec_l6Rd_pick.f k bt833.1 bt853.2 6).bind fun bt867 => ((spec_l6Rd_pick.f k bt833.1 bt867.2 24).bind fun bt869 => (some (bt836.1, bt836.2.1, bt836.2.2.1, bt843.1, bt843.2.1, bt843.2.2.1, bt843.2.2.2.1, bt843.2.2.2.2.1, bt843.2.2.2.2.2.1, bt843.2.2.2.2.2.2.1, bt843.2.2.2.2.2.2.2.1, wrap64 ((wrap64 ((wrap64 (bt836.1 + 1)) + bt867.1)) - (wrap64 ((wrap64 (Int.tdiv bt869.1 23)) * 8)))))))))))) = some (r1, r2, r3, r4, r5, r6, r7, r8, r9, r10, r11, r12) := h
  clear h
  replace H := Option.bind_eq_some_iff.mp H
  obtain ⟨⟨t833, t834⟩, A20, H⟩ := H
  replace H : ((spec_l71Page.f k t833 t834).bind fun bt836 => ((spec_l71Rec.f k t833 bt836.2.2.2).bind fun bt843 => ((spec_l6Rd_pick.f k t833 bt843.2.2.2.2.2.2.2.2 2).bind fun bt853 => (if bt853.1 = 0 then ((spec_l6Rd_pick.f k t833 bt853.2 5).bind fun bt855 => ((spec_l6Rd_pick.f k t833 bt855.2 3).bind fun bt857 => ((spec_l6Rd_pick.f k t833 bt857.2 3).bind fun bt859 => ((spec_l6Rd_pick.f k t833 bt859.2 10).bind fun bt861 => ((spec_l6Rd_pick.f k t833 bt861.2 6).bind fun bt863 => ((spec_l6Rd_pick.f k t833 bt863.2 24).bind fun bt865 => (some (bt836.1, bt836.2.1, bt836.2.2.1, 1, 1, bt855.1, bt857.1, bt859.1, bt861.1, 0, 0, wrap64 ((wrap64 ((wrap64 (bt836.1 + 1)) + bt863.1)) - (wrap64 ((wrap64 (Int.tdiv bt865.1 23)) * 8))))))))))) else ((spec_l6Rd_pick.f k t833 bt853.2 6).bind fun bt867 => ((spec_l6Rd_pick.f k t833 bt867.2 24).bind fun bt869 => (some (bt836.1, bt836.2.1, bt836.2.2.1, bt843.1, bt843.2.1, bt843.2.2.1, bt843.2.2.2.1, bt843.2.2.2.2.1, bt843.2.2.2.2.2.1, bt843.2.2.2.2.2.2.1, bt843.2.2.2.2.2.2.2.1, wrap64 ((wrap64 ((wrap64 (bt836.1 + 1)) + bt867.1)) - (wrap64 ((wrap64 (Int.tdiv bt869.1 23)) * 8))))))))))) = some (r1, r2, r3, r4, r5, r6, r7, r8, r9, r10, r11, r12) := H
  have A2 := az A20
  clear A20
  replace H := Option.bind_eq_some_iff.mp H
  obtain ⟨⟨t836, t837, t838, t841⟩, A30, H⟩ := H
  replace H : ((spec_l71Rec.f k t833 t841).bind fun bt843 => ((spec_l6Rd_pick.f k t833 bt843.2.2.2.2.2.2.2.2 2).bind fun bt853 => (if bt853.1 = 0 then ((spec_l6Rd_pick.f k t833 bt853.2 5).bind fun bt855 => ((spec_l6Rd_pick.f k t833 bt855.2 3).bind fun bt857 => ((spec_l6Rd_pick.f k t833 bt857.2 3).bind fun bt859 => ((spec_l6Rd_pick.f k t833 bt859.2 10).bind fun bt861 => ((spec_l6Rd_pick.f k t833 bt861.2 6).bind fun bt863 => ((spec_l6Rd_pick.f k t833 bt863.2 24).bind fun bt865 => (some (t836, t837, t838, 1, 1, bt855.1, bt857.1, bt859.1, bt861.1, 0, 0, wrap64 ((wrap64 ((wrap64 (t836 + 1)) + bt863.1)) - (wrap64 ((wrap64 (Int.tdiv bt865.1 23)) * 8))))))))))) else ((spec_l6Rd_pick.f k t833 bt853.2 6).bind fun bt867 => ((spec_l6Rd_pick.f k t833 bt867.2 24).bind fun bt869 => (some (t836, t837, t838, bt843.1, bt843.2.1, bt843.2.2.1, bt843.2.2.2.1, bt843.2.2.2.2.1, bt843.2.2.2.2.2.1, bt843.2.2.2.2.2.2.1, bt843.2.2.2.2.2.2.2.1, wrap64 ((wrap64 ((wrap64 (t836 + 1)) + bt867.1)) - (wrap64 ((wrap64 (Int.tdiv bt869.1 23)) * 8)))))))))) = some (r1, r2, r3, r4, r5, r6, r7, r8, r9, r10, r11, r12) := H
  have A3 := az A30
  clear A30
  replace H := Option.bind_eq_some_iff.mp H
  obtain ⟨⟨t843, t844, t845, t846, t847, t848, t849, t850, t851⟩, A40, H⟩ := H
  replace H : ((spec_l6Rd_pick.f k t833 t851 2).bind fun bt853 => (if bt853.1 = 0 then ((spec_l6Rd_pick.f k t833 bt853.2 5).bind fun bt855 => ((spec_l6Rd_pick.f k t833 bt855.2 3).bind fun bt857 => ((spec_l6Rd_pick.f k t833 bt857.2 3).bind fun bt859 => ((spec_l6Rd_pick.f k t833 bt859.2 10).bind fun bt861 => ((spec_l6Rd_pick.f k t833 bt861.2 6).bind fun bt863 => ((spec_l6Rd_pick.f k t833 bt863.2 24).bind fun bt865 => (some (t836, t837, t838, 1, 1, bt855.1, bt857.1, bt859.1, bt861.1, 0, 0, wrap64 ((wrap64 ((wrap64 (t836 + 1)) + bt863.1)) - (wrap64 ((wrap64 (Int.tdiv bt865.1 23)) * 8))))))))))) else ((spec_l6Rd_pick.f k t833 bt853.2 6).bind fun bt867 => ((spec_l6Rd_pick.f k t833 bt867.2 24).bind fun bt869 => (some (t836, t837, t838, t843, t844, t845, t846, t847, t848, t849, t850, wrap64 ((wrap64 ((wrap64 (t836 + 1)) + bt867.1)) - (wrap64 ((wrap64 (Int.tdiv bt869.1 23)) * 8))))))))) = some (r1, r2, r3, r4, r5, r6, r7, r8, r9, r10, r11, r12) := H
  have A4 := az A40
  clear A40
  replace H := Option.bind_eq_some_iff.mp H
  obtain ⟨⟨t853, t854⟩, A50, H⟩ := H
  replace H : (if t853 = 0 then ((spec_l6Rd_pick.f k t833 t854 5).bind fun bt855 => ((spec_l6Rd_pick.f k t833 bt855.2 3).bind fun bt857 => ((spec_l6Rd_pick.f k t833 bt857.2 3).bind fun bt859 => ((spec_l6Rd_pick.f k t833 bt859.2 10).bind fun bt861 => ((spec_l6Rd_pick.f k t833 bt861.2 6).bind fun bt863 => ((spec_l6Rd_pick.f k t833 bt863.2 24).bind fun bt865 => (some (t836, t837, t838, 1, 1, bt855.1, bt857.1, bt859.1, bt861.1, 0, 0, wrap64 ((wrap64 ((wrap64 (t836 + 1)) + bt863.1)) - (wrap64 ((wrap64 (Int.tdiv bt865.1 23)) * 8))))))))))) else ((spec_l6Rd_pick.f k t833 t854 6).bind fun bt867 => ((spec_l6Rd_pick.f k t833 bt867.2 24).bind fun bt869 => (some (t836, t837, t838, t843, t844, t845, t846, t847, t848, t849, t850, wrap64 ((wrap64 ((wrap64 (t836 + 1)) + bt867.1)) - (wrap64 ((wrap64 (Int.tdiv bt869.1 23)) * 8)))))))) = some (r1, r2, r3, r4, r5, r6, r7, r8, r9, r10, r11, r12) := H
  have A5 := az A50
  clear A50
  by_cases c6 : t853 = 0
  · rw [if_pos c6] at H
    have c6b0 : (t853 == 0) = true := beq_iff_eq.mpr c6
    have c6b1 : (t853 != 0) = false := bne_eq_false_iff_eq.mpr c6
    clear c6
    replace H := Option.bind_eq_some_iff.mp H
    obtain ⟨⟨t855, t856⟩, A70, H⟩ := H
    replace H : ((spec_l6Rd_pick.f k t833 t856 3).bind fun bt857 => ((spec_l6Rd_pick.f k t833 bt857.2 3).bind fun bt859 => ((spec_l6Rd_pick.f k t833 bt859.2 10).bind fun bt861 => ((spec_l6Rd_pick.f k t833 bt861.2 6).bind fun bt863 => ((spec_l6Rd_pick.f k t833 bt863.2 24).bind fun bt865 => (some (t836, t837, t838, 1, 1, t855, bt857.1, bt859.1, bt861.1, 0, 0, wrap64 ((wrap64 ((wrap64 (t836 + 1)) + bt863.1)) - (wrap64 ((wrap64 (Int.tdiv bt865.1 23)) * 8)))))))))) = some (r1, r2, r3, r4, r5, r6, r7, r8, r9, r10, r11, r12) := H
    have A7 := az A70
    clear A70
    replace H := Option.bind_eq_some_iff.mp H
    obtain ⟨⟨t857, t858⟩, A80, H⟩ := H
    replace H : ((spec_l6Rd_pick.f k t833 t858 3).bind fun bt859 => ((spec_l6Rd_pick.f k t833 bt859.2 10).bind fun bt861 => ((spec_l6Rd_pick.f k t833 bt861.2 6).bind fun bt863 => ((spec_l6Rd_pick.f k t833 bt863.2 24).bind fun bt865 => (some (t836, t837, t838, 1, 1, t855, t857, bt859.1, bt861.1, 0, 0, wrap64 ((wrap64 ((wrap64 (t836 + 1)) + bt863.1)) - (wrap64 ((wrap64 (Int.tdiv bt865.1 23)) * 8))))))))) = some (r1, r2, r3, r4, r5, r6, r7, r8, r9, r10, r11, r12) := H
    have A8 := az A80
    clear A80
    replace H := Option.bind_eq_some_iff.mp H
    obtain ⟨⟨t859, t860⟩, A90, H⟩ := H
    replace H : ((spec_l6Rd_pick.f k t833 t860 10).bind fun bt861 => ((spec_l6Rd_pick.f k t833 bt861.2 6).bind fun bt863 => ((spec_l6Rd_pick.f k t833 bt863.2 24).bind fun bt865 => (some (t836, t837, t838, 1, 1, t855, t857, t859, bt861.1, 0, 0, wrap64 ((wrap64 ((wrap64 (t836 + 1)) + bt863.1)) - (wrap64 ((wrap64 (Int.tdiv bt865.1 23)) * 8)))))))) = some (r1, r2, r3, r4, r5, r6, r7, r8, r9, r10, r11, r12) := H
    have A9 := az A90
    clear A90
    replace H := Option.bind_eq_some_iff.mp H
    obtain ⟨⟨t861, t862⟩, A100, H⟩ := H
    replace H : ((spec_l6Rd_pick.f k t833 t862 6).bind fun bt863 => ((spec_l6Rd_pick.f k t833 bt863.2 24).bind fun bt865 => (some (t836, t837, t838, 1, 1, t855, t857, t859, t861, 0, 0, wrap64 ((wrap64 ((wrap64 (t836 + 1)) + bt863.1)) - (wrap64 ((wrap64 (Int.tdiv bt865.1 23)) * 8))))))) = some (r1, r2, r3, r4, r5, r6, r7, r8, r9, r10, r11, r12) := H
    have A10 := az A100
    clear A100
    replace H := Option.bind_eq_some_iff.mp H
    obtain ⟨⟨t863, t864⟩, A110, H⟩ := H
    replace H : ((spec_l6Rd_pick.f k t833 t864 24).bind fun bt865 => (some (t836, t837, t838, 1, 1, t855, t857, t859, t861, 0, 0, wrap64 ((wrap64 ((wrap64 (t836 + 1)) + t863)) - (wrap64 ((wrap64 (Int.tdiv bt865.1 23)) * 8)))))) = some (r1, r2, r3, r4, r5, r6, r7, r8, r9, r10, r11, r12) := H
    have A11 := az A110
    clear A110
    replace H := Option.bind_eq_some_iff.mp H
    obtain ⟨⟨t865, t866⟩, A120, H⟩ := H
    replace H : (some (t836, t837, t838, 1, 1, t855, t857, t859, t861, 0, 0, wrap64 ((wrap64 ((wrap64 (t836 + 1)) + t863)) - (wrap64 ((wrap64 (Int.tdiv t865 23)) * 8))))) = some (r1, r2, r3, r4, r5, r6, r7, r8, r9, r10, r11, r12) := H
    have A12 := az A120
    clear A120
    simp only [Option.some.injEq, Prod.mk.injEq] at H
    obtain ⟨rfl, rfl, rfl, rfl, rfl, rfl, rfl, rfl, rfl, rfl, rfl, rfl⟩ := H
    go_enter Try.func56, Try.ntmps56
    try go_wp2_with (first | ((with_reducible refine gate_dst (N := 2) rfl ?_); refine box_event ?hg (N := 2) ?hd (cs := #[.int .i64 0, .int .i64 0, .slice none 0 0]) (t := 25) ?hr ?_; (case hd => rfl); (case hg => rfl); (case hr => first | (go_simp; done) | (go_simp; rfl)); intro gb831 hg w13 hbox hb; have BK831 := az (hbox); have GW831 := az ((by rw [hg]; exact (below_size (by repeat (first | (with_reducible first | exact HB.out | apply wa | apply wn | apply wd) | exact HB.out))) : w.heap.size ≤ gb831)); have GE831 := GW831; replace HB := az (below_step (by repeat (first | (with_reducible first | exact HB.out | apply wa | apply wn | apply wd) | exact HB.out)) hb); clear hb hbox hg) | ((with_reducible refine gate_dst (N := 3) rfl ?_); refine box_event ?hg (N := 3) ?hd (cs := #[.int .i64 0, .int .i64 0, .int .i64 0, .int .i64 0, .int .i64 0, .int .i64 0, .int .i64 0, .int .i64 0]) (t := 41) ?hr ?_; (case hd => rfl); (case hg => rfl); (case hr => first | (go_simp; done) | (go_simp; rfl)); intro gb832 hg w14 hbox hb; have BK832 := az (hbox); have GW832 := az ((by rw [hg]; exact (below_size (by repeat (first | (with_reducible first | exact HB.out | apply wa | apply wn | apply wd | refine ws ‹_› ?_) | exact HB.out))) : w.heap.size ≤ gb832)); have GE832 := GW832; replace HB := az (below_step (by repeat (first | (with_reducible first | exact HB.out | apply wa | apply wn | apply wd | refine ws ‹_› ?_) | exact HB.out)) hb); obtain ⟨NB831_832, NB832_831⟩ := nb BK831 hg (fun h => by (with_reducible repeat (first | apply bn | apply bd | apply ba)); exact h); replace BK831 := bb BK831 (fun h => by (with_reducible repeat (first | apply bn | apply bd | apply ba)); exact h) hb; clear hb hbox hg) | ((with_reducible refine gate_callee (f := 75) rfl ?_); refine goesL_ (some 9) rfl rfl Try.func75 (by kernel_rfl) rfl #[.slice A0 l0.length c0] rfl (by (try simp only [List.map_toArray, List.map_cons, List.map_nil]); first | done | rfl | (simp only [List.length_drop, List.length_take]; rfl)) ?_; (with_reducible refine (spec_l6Open.calls _ _ l0 t833 t834 w _ ?side1 ?side2 ?side3 A2.out).mono ?_); (case side1 => repeat (first | (with_reducible first | exact HB.out | apply wa | apply wn | apply wd | refine ws ‹_› ?_) | exact HB.out)); (case side2 => exact HR0.out); (case side3 => exact HC0.out); rintro e w15 ⟨g835, rfl, hi, hb, hb2⟩; refine ⟨_, rfl, ?_⟩; replace HB := az (hb); have HI835 := az (hi); have NB835_831 := az (IsS96.ne_blk hi (blk_below (g := gb831) (o := .cells #[.int .i64 0, .int .i64 0, .slice none 0 0] 25 (0, 0)) (by (with_reducible repeat (first | apply bn | apply bd | apply ba)); exact BK831.out) hb2) (by decide)); have NB831_835 := az (Ne.symm (IsS96.ne_blk hi (blk_below (g := gb831) (o := .cells #[.int .i64 0, .int .i64 0, .slice none 0 0] 25 (0, 0)) (by (with_reducible repeat (first | apply bn | apply bd | apply ba)); exact BK831.out) hb2) (by decide))); replace BK831 := bb BK831 (fun h => by (with_reducible repeat (first | apply bn | apply bd | apply ba)); exact h) hb2; have NB835_832 := az (IsS96.ne_blk hi (blk_below (g := gb832) (o := .cells #[.int .i64 0, .int .i64 0, .int .i64 0, .int .i64 0, .int .i64 0, .int .i64 0, .int .i64 0, .int .i64 0] 41 (0, 0)) (by (with_reducible repeat (first | apply bn | apply bd | apply ba)); exact BK832.out) hb2) (by decide)); have NB832_835 := az (Ne.symm (IsS96.ne_blk hi (blk_below (g := gb832) (o := .cells #[.int .i64 0, .int .i64 0, .int .i64 0, .int .i64 0, .int .i64 0, .int .i64 0, .int .i64 0, .int .i64 0] 41 (0, 0)) (by (with_reducible repeat (first | apply bn | apply bd | apply ba)); exact BK832.out) hb2) (by decide))); replace BK832 := bb BK832 (fun h => by (with_reducible repeat (first | apply bn | apply bd | apply ba)); exact h) hb2; (try clear hb); (try clear hb2); (try clear hk); (try clear hi)) | ((with_reducible refine gate_callee (f := 76) rfl ?_); refine goesL_ (some 11) rfl rfl Try.func76 (by kernel_rfl) rfl #[.pointer (some ⟨g835, 0, none⟩)] rfl (by (try simp only [List.map_toArray, List.map_cons, List.map_nil]); first | done | rfl | (simp only [List.length_drop, List.length_take]; rfl)) ?_; (with_reducible refine (spec_l71Page.calls k g835 t833 t834 t836 t837 t838 t841 w _ ?side1 ?side2 A3.out).mono ?_); (case side1 => repeat (first | (with_reducible first | exact HI835.out | apply IsS96.alloc | apply IsS96.drewN | apply IsS96.drew | apply IsS96.set_1 | refine IsS96.far ?_ NB835_831.out _ | refine IsS96.far ?_ NB835_832.out _) | exact HI835.out)); (case side2 => repeat (first | (with_reducible first | exact HB.out | apply wa | apply wn | apply wd | refine below_set ?_ (IsS96.ge HI835.out) | refine ws ‹_› ?_) | exact HB.out)); rintro e w16 ⟨v839, rfl, ho0, hi, hb, hk⟩; refine ⟨_, rfl, ?_⟩; replace BK831 := az (KeepBut.blk hk (g' := gb831) (o := .cells #[.int .i64 0, .int .i64 0, .slice none 0 0] 25 (0, 0)) (by (with_reducible repeat (first | apply bn | apply bd | apply ba)); exact BK831.out) NB831_835.out (by simp)); replace BK832 := az (KeepBut.blk hk (g' := gb832) (o := .cells #[.int .i64 0, .int .i64 0, .int .i64 0, .int .i64 0, .int .i64 0, .int .i64 0, .int .i64 0, .int .i64 0] 41 (0, 0)) (by (with_reducible repeat (first | apply bn | apply bd | apply ba)); exact BK832.out) NB832_835.out (by simp)); have HO840 := az (Kd.Q_lower ho0 (below_size (by repeat (first | (with_reducible first | exact HB.out | apply wa | apply wn | apply wd | refine below_set ?_ (IsS96.ge HI835.out) | refine ws ‹_› ?_) | exact HB.out)))); replace HB := az (hb); replace HI835 := az (hi); (try clear hb); (try clear hb2); (try clear hk); (try clear hi); (try clear ho0)) | ((with_reducible refine gate_dst (N := 6) rfl ?_); refine box_event ?hg (N := 6) ?hd (cs := #[.int .i64 0, .int .i64 0, .slice none 0 0]) (t := 25) ?hr ?_; (case hd => rfl); (case hg => rfl); (case hr => first | (go_simp; done) | (go_simp; rfl)); intro gb842 hg w17 hbox hb; replace HO840 := az (Kd.Q_below (by (with_reducible repeat (first | apply Kd.Q_alloc | apply Kd.Q_drewN | apply Kd.Q_drew)); exact HO840.out) hb); have BK842 := az (hbox); have GW842 := az ((by rw [hg]; exact (below_size (by repeat (first | (with_reducible first | exact HB.out | apply wa | apply wn | apply wd | refine below_set ?_ (IsS96.ge HI835.out) | refine ws ‹_› ?_) | exact HB.out))) : w.heap.size ≤ gb842)); have GE842 := GW842; replace HB := az (below_step (by repeat (first | (with_reducible first | exact HB.out | apply wa | apply wn | apply wd | refine below_set ?_ (IsS96.ge HI835.out) | refine ws ‹_› ?_) | exact HB.out)) hb); obtain ⟨NB831_842, NB842_831⟩ := nb BK831 hg (fun h => by (with_reducible repeat (first | apply bn | apply bd | apply ba)); exact h); replace BK831 := bb BK831 (fun h => by (with_reducible repeat (first | apply bn | apply bd | apply ba)); exact h) hb; obtain ⟨NB832_842, NB842_832⟩ := nb BK832 hg (fun h => by (with_reducible repeat (first | apply bn | apply bd | apply ba)); exact h); replace BK832 := bb BK832 (fun h => by (with_reducible repeat (first | apply bn | apply bd | apply ba)); exact h) hb; have NB835_842 := az ((by rw [hg]; exact Nat.ne_of_lt (IsS96.lt (show IsS96 w _ g835 t833 t841 from by repeat (first | (with_reducible first | exact HI835.out | apply IsS96.alloc | apply IsS96.drewN | apply IsS96.drew | apply IsS96.set_1 | refine IsS96.far ?_ NB835_831.out _ | refine IsS96.far ?_ NB835_832.out _) | exact HI835.out))) : g835 ≠ gb842)); have NB842_835 := az ((by rw [hg]; exact Nat.ne_of_gt (IsS96.lt (show IsS96 w _ g835 t833 t841 from by repeat (first | (with_reducible first | exact HI835.out | apply IsS96.alloc | apply IsS96.drewN | apply IsS96.drew | apply IsS96.set_1 | refine IsS96.far ?_ NB835_831.out _ | refine IsS96.far ?_ NB835_832.out _) | exact HI835.out))) : gb842 ≠ g835)); replace HI835 := az (IsS96.below (by repeat (first | (with_reducible first | exact HI835.out | apply IsS96.alloc | apply IsS96.drewN | apply IsS96.drew | apply IsS96.set_1 | refine IsS96.far ?_ NB835_831.out _ | refine IsS96.far ?_ NB835_832.out _) | exact HI835.out)) hb); clear hb hbox hg; have hnb18 := NB842_831.out; have hnc18 := NB831_842.out; have hnb19 := NB842_832.out; have hnc19 := NB832_842.out; have hnb20 := NB842_835.out; have hnc20 := NB835_842.out; obtain ⟨hcz21_0, hcz21_1, hcz21_2⟩ := cz3 BK842; obtain ⟨hfz21_0, hfz21_1, hfz21_2⟩ := fz3 BK842; obtain ⟨Ao22, co22, eo22, _⟩ := Kd.Q_slice HO840.out; subst eo22) | ((with_reducible refine gate_callee (f := 88) rfl ?_); refine goesL_ (some 13) rfl rfl Try.func88 (by kernel_rfl) rfl #[.pointer (some ⟨g835, 0, none⟩)] rfl (by (try simp only [List.map_toArray, List.map_cons, List.map_nil]); first | done | rfl | (simp only [List.length_drop, List.length_take]; rfl)) ?_; (with_reducible refine (spec_l71Rec.calls k g835 t833 t841 t843 t844 t845 t846 t847 t848 t849 t850 t851 w _ ?side1 ?side2 A4.out).mono ?_); (case side1 => repeat (first | (with_reducible first | exact HI835.out | apply IsS96.alloc | apply IsS96.drewN | apply IsS96.drew | apply IsS96.set_1 | refine IsS96.far ?_ NB835_831.out _ | refine IsS96.far ?_ NB835_832.out _ | refine IsS96.far ?_ NB835_842.out _) | exact HI835.out)); (case side2 => repeat (first | (with_reducible first | exact HB.out | apply wa | apply wn | apply wd | refine below_set ?_ (IsS96.ge HI835.out) | refine ws ‹_› ?_) | exact HB.out)); rintro e w23 ⟨rfl, hi, hb, hk⟩; refine ⟨_, rfl, ?_⟩; replace BK831 := az (KeepBut.blk hk (g' := gb831) (o := .cells #[.int .i64 0, .int .i64 0, .slice none 0 0] 25 (0, 0)) (by (repeat (first | (with_reducible first | apply bn | apply bd | apply ba) | apply bf NB831_842)); exact BK831.out) NB831_835.out (by simp)); replace BK832 := az (KeepBut.blk hk (g' := gb832) (o := .cells #[.int .i64 0, .int .i64 0, .int .i64 0, .int .i64 0, .int .i64 0, .int .i64 0, .int .i64 0, .int .i64 0] 41 (0, 0)) (by (repeat (first | (with_reducible first | apply bn | apply bd | apply ba) | apply bf NB832_842)); exact BK832.out) NB832_835.out (by simp)); replace HO840 := az (Kd.Q_mono (Kd.Q_keep (IsS96.apartQ (show IsS96 w _ g835 t833 t841 from by repeat (first | (with_reducible first | exact HI835.out | apply IsS96.alloc | apply IsS96.drewN | apply IsS96.drew | apply IsS96.set_1 | refine IsS96.far ?_ NB835_831.out _ | refine IsS96.far ?_ NB835_832.out _ | refine IsS96.far ?_ NB835_842.out _) | exact HI835.out)) (by (with_reducible repeat (first | apply Kd.Q_alloc | apply Kd.Q_drewN | apply Kd.Q_drew)); exact (fQ3 HO840.out BK842.out (by decide))) (by decide)) hk (fun _ h => h.2)) (fun _ h => h.1)); replace BK842 := az (KeepBut.blk hk (g' := gb842) (o := .cells #[.int .i64 t836, .int .i64 t837, .slice Ao22 t838.length co22] 25 (0, 0)) (by (with_reducible repeat (first | apply bn | apply bd | apply ba)); exact p3 BK842) NB842_835.out (by simp)); replace HB := az (hb); replace HI835 := az (hi); (try clear hb); (try clear hb2); (try clear hk); (try clear hi)) | ((with_reducible refine gate_dst (N := 7) rfl ?_); refine box_event ?hg (N := 7) ?hd (cs := #[.int .i64 0, .int .i64 0, .int .i64 0, .int .i64 0, .int .i64 0, .int .i64 0, .int .i64 0, .int .i64 0]) (t := 41) ?hr ?_; (case hd => rfl); (case hg => rfl); (case hr => first | (go_simp; done) | (go_simp; rfl)); intro gb852 hg w24 hbox hb; replace HO840 := az (Kd.Q_below (by (with_reducible repeat (first | apply Kd.Q_alloc | apply Kd.Q_drewN | apply Kd.Q_drew)); exact HO840.out) hb); have BK852 := az (hbox); have GW852 := az ((by rw [hg]; exact (below_size (by repeat (first | (with_reducible first | exact HB.out | apply wa | apply wn | apply wd | refine below_set ?_ (IsS96.ge HI835.out) | refine ws ‹_› ?_) | exact HB.out))) : w.heap.size ≤ gb852)); have GE852 := GW852; replace HB := az (below_step (by repeat (first | (with_reducible first | exact HB.out | apply wa | apply wn | apply wd | refine below_set ?_ (IsS96.ge HI835.out) | refine ws ‹_› ?_) | exact HB.out)) hb); obtain ⟨NB831_852, NB852_831⟩ := nb BK831 hg (fun h => by (with_reducible repeat (first | apply bn | apply bd | apply ba)); exact h); replace BK831 := bb BK831 (fun h => by (with_reducible repeat (first | apply bn | apply bd | apply ba)); exact h) hb; obtain ⟨NB832_852, NB852_832⟩ := nb BK832 hg (fun h => by (with_reducible repeat (first | apply bn | apply bd | apply ba)); exact h); replace BK832 := bb BK832 (fun h => by (with_reducible repeat (first | apply bn | apply bd | apply ba)); exact h) hb; obtain ⟨NB842_852, NB852_842⟩ := nb BK842 hg (fun h => by (with_reducible repeat (first | apply bn | apply bd | apply ba)); exact h); replace BK842 := bb BK842 (fun h => by (with_reducible repeat (first | apply bn | apply bd | apply ba)); exact h) hb; have NB835_852 := az ((by rw [hg]; exact Nat.ne_of_lt (IsS96.lt (show IsS96 w _ g835 t833 t851 from by repeat (first | (with_reducible first | exact HI835.out | apply IsS96.alloc | apply IsS96.drewN | apply IsS96.drew | apply IsS96.set_1 | refine IsS96.far ?_ NB835_831.out _ | refine IsS96.far ?_ NB835_832.out _ | refine IsS96.far ?_ NB835_842.out _) | exact HI835.out))) : g835 ≠ gb852)); have NB852_835 := az ((by rw [hg]; exact Nat.ne_of_gt (IsS96.lt (show IsS96 w _ g835 t833 t851 from by repeat (first | (with_reducible first | exact HI835.out | apply IsS96.alloc | apply IsS96.drewN | apply IsS96.drew | apply IsS96.set_1 | refine IsS96.far ?_ NB835_831.out _ | refine IsS96.far ?_ NB835_832.out _ | refine IsS96.far ?_ NB835_842.out _) | exact HI835.out))) : gb852 ≠ g835)); replace HI835 := az (IsS96.below (by repeat (first | (with_reducible first | exact HI835.out | apply IsS96.alloc | apply IsS96.drewN | apply IsS96.drew | apply IsS96.set_1 | refine IsS96.far ?_ NB835_831.out _ | refine IsS96.far ?_ NB835_832.out _ | refine IsS96.far ?_ NB835_842.out _) | exact HI835.out)) hb); clear hb hbox hg; have hnb25 := NB852_831.out; have hnc25 := NB831_852.out; have hnb26 := NB852_832.out; have hnc26 := NB832_852.out; have hnb27 := NB852_842.out; have hnc27 := NB842_852.out; have hnb28 := NB852_835.out; have hnc28 := NB835_852.out; obtain ⟨hcz29_0, hcz29_1, hcz29_2, hcz29_3, hcz29_4, hcz29_5, hcz29_6, hcz29_7⟩ := cz8 BK852; obtain ⟨hfz29_0, hfz29_1, hfz29_2, hfz29_3, hfz29_4, hfz29_5, hfz29_6⟩ := fz7 BK852; have hfz29_7 := blk_frozen BK852.out 7) | ((with_reducible refine gate_callee (f := 77) rfl ?_); refine goesL_ (some 15) rfl rfl Try.func77 (by kernel_rfl) rfl #[.pointer (some ⟨g835, 0, none⟩), .int .i64 2] rfl (by (try simp only [List.map_toArray, List.map_cons, List.map_nil]); first | done | rfl | (simp only [List.length_drop, List.length_take]; rfl)) ?_; (with_reducible refine (spec_l6Rd_pick.calls k g835 t833 t851 2 t853 t854 w _ ?side1 ?side2 A5.out).mono ?_); (case side1 => repeat (first | (with_reducible first | exact HI835.out | apply IsS96.alloc | apply IsS96.drewN | apply IsS96.drew | apply IsS96.set_1 | refine IsS96.far ?_ NB835_831.out _ | refine IsS96.far ?_ NB835_832.out _ | refine IsS96.far ?_ NB835_842.out _ | refine IsS96.far ?_ NB835_852.out _) | exact HI835.out)); (case side2 => repeat (first | (with_reducible first | exact HB.out | apply wa | apply wn | apply wd | refine below_set ?_ (IsS96.ge HI835.out) | refine ws ‹_› ?_) | exact HB.out)); rintro e w30 ⟨rfl, hi, hb, hk⟩; refine ⟨_, rfl, ?_⟩; replace BK831 := az (KeepBut.blk hk (g' := gb831) (o := .cells #[.int .i64 0, .int .i64 0, .slice none 0 0] 25 (0, 0)) (by (repeat (first | (with_reducible first | apply bn | apply bd | apply ba) | apply bf NB831_852)); exact BK831.out) NB831_835.out (by simp)); replace BK832 := az (KeepBut.blk hk (g' := gb832) (o := .cells #[.int .i64 0, .int .i64 0, .int .i64 0, .int .i64 0, .int .i64 0, .int .i64 0, .int .i64 0, .int .i64 0] 41 (0, 0)) (by (repeat (first | (with_reducible first | apply bn | apply bd | apply ba) | apply bf NB832_852)); exact BK832.out) NB832_835.out (by simp)); replace HO840 := az (Kd.Q_mono (Kd.Q_keep (IsS96.apartQ (show IsS96 w _ g835 t833 t851 from by repeat (first | (with_reducible first | exact HI835.out | apply IsS96.alloc | apply IsS96.drewN | apply IsS96.drew | apply IsS96.set_1 | refine IsS96.far ?_ NB835_831.out _ | refine IsS96.far ?_ NB835_832.out _ | refine IsS96.far ?_ NB835_842.out _ | refine IsS96.far ?_ NB835_852.out _) | exact HI835.out)) (by (with_reducible repeat (first | apply Kd.Q_alloc | apply Kd.Q_drewN | apply Kd.Q_drew)); exact (fQ8 HO840.out BK852.out (by decide))) (by decide)) hk (fun _ h => h.2)) (fun _ h => h.1)); replace BK842 := az (KeepBut.blk hk (g' := gb842) (o := .cells #[.int .i64 t836, .int .i64 t837, .slice Ao22 t838.length co22] 25 (0, 0)) (by (repeat (first | (with_reducible first | apply bn | apply bd | apply ba) | apply bf NB842_852)); exact BK842.out) NB842_835.out (by simp)); replace BK852 := az (KeepBut.blk hk (g' := gb852) (o := .cells #[.int .i64 t843, .int .i64 t844, .int .i64 t845, .int .i64 t846, .int .i64 t847, .int .i64 t848, .int .i64 t849, .int .i64 t850] 41 (0, 0)) (by (with_reducible repeat (first | apply bn | apply bd | apply ba)); exact p8 BK852) NB852_835.out (by simp)); replace HB := az (hb); replace HI835 := az (hi); (try clear hb); (try clear hb2); (try clear hk); (try clear hi)) | ((with_reducible refine gate_callee (f := 77) rfl ?_); refine goesL_ (some 18) rfl rfl Try.func77 (by kernel_rfl) rfl #[.pointer (some ⟨g835, 0, none⟩), .int .i64 5] rfl (by (try simp only [List.map_toArray, List.map_cons, List.map_nil]); first | done | rfl | (simp only [List.length_drop, List.length_take]; rfl)) ?_; (with_reducible refine (spec_l6Rd_pick.calls k g835 t833 t854 5 t855 t856 w _ ?side1 ?side2 A7.out).mono ?_); (case side1 => repeat (first | (with_reducible first | exact HI835.out | apply IsS96.alloc | apply IsS96.drewN | apply IsS96.drew | apply IsS96.set_1 | refine IsS96.far ?_ NB835_831.out _ | refine IsS96.far ?_ NB835_832.out _ | refine IsS96.far ?_ NB835_842.out _ | refine IsS96.far ?_ NB835_852.out _) | exact HI835.out)); (case side2 => repeat (first | (with_reducible first | exact HB.out | apply wa | apply wn | apply wd | refine below_set ?_ (IsS96.ge HI835.out) | refine ws ‹_› ?_) | exact HB.out)); rintro e w31 ⟨rfl, hi, hb, hk⟩; refine ⟨_, rfl, ?_⟩; replace BK831 := az (KeepBut.blk hk (g' := gb831) (o := .cells #[.int .i64 0, .int .i64 0, .slice none 0 0] 25 (0, 0)) (by (with_reducible repeat (first | apply bn | apply bd | apply ba)); exact BK831.out) NB831_835.out (by simp)); replace BK832 := az (KeepBut.blk hk (g' := gb832) (o := .cells #[.int .i64 0, .int .i64 0, .int .i64 0, .int .i64 0, .int .i64 0, .int .i64 0, .int .i64 0, .int .i64 0] 41 (0, 0)) (by (with_reducible repeat (first | apply bn | apply bd | apply ba)); exact BK832.out) NB832_835.out (by simp)); replace HO840 := az (Kd.Q_mono (Kd.Q_keep (IsS96.apartQ (show IsS96 w _ g835 t833 t854 from by repeat (first | (with_reducible first | exact HI835.out | apply IsS96.alloc | apply IsS96.drewN | apply IsS96.drew | apply IsS96.set_1 | refine IsS96.far ?_ NB835_831.out _ | refine IsS96.far ?_ NB835_832.out _ | refine IsS96.far ?_ NB835_842.out _ | refine IsS96.far ?_ NB835_852.out _) | exact HI835.out)) (by (with_reducible repeat (first | apply Kd.Q_alloc | apply Kd.Q_drewN | apply Kd.Q_drew)); exact HO840.out) (by decide)) hk (fun _ h => h.2)) (fun _ h => h.1)); replace BK842 := az (KeepBut.blk hk (g' := gb842) (o := .cells #[.int .i64 t836, .int .i64 t837, .slice Ao22 t838.length co22] 25 (0, 0)) (by (with_reducible repeat (first | apply bn | apply bd | apply ba)); exact BK842.out) NB842_835.out (by simp)); replace BK852 := az (KeepBut.blk hk (g' := gb852) (o := .cells #[.int .i64 t843, .int .i64 t844, .int .i64 t845, .int .i64 t846, .int .i64 t847, .int .i64 t848, .int .i64 t849, .int .i64 t850] 41 (0, 0)) (by (with_reducible repeat (first | apply bn | apply bd | apply ba)); exact BK852.out) NB852_835.out (by simp)); replace HB := az (hb); replace HI835 := az (hi); (try clear hb); (try clear hb2); (try clear hk); (try clear hi)) | ((with_reducible refine gate_callee (f := 77) rfl ?_); refine goesL_ (some 20) rfl rfl Try.func77 (by kernel_rfl) rfl #[.pointer (some ⟨g835, 0, none⟩), .int .i64 3] rfl (by (try simp only [List.map_toArray, List.map_cons, List.map_nil]); first | done | rfl | (simp only [List.length_drop, List.length_take]; rfl)) ?_; (with_reducible refine (spec_l6Rd_pick.calls k g835 t833 t856 3 t857 t858 w _ ?side1 ?side2 A8.out).mono ?_); (case side1 => repeat (first | (with_reducible first | exact HI835.out | apply IsS96.alloc | apply IsS96.drewN | apply IsS96.drew | apply IsS96.set_1 | refine IsS96.far ?_ NB835_831.out _ | refine IsS96.far ?_ NB835_832.out _ | refine IsS96.far ?_ NB835_842.out _ | refine IsS96.far ?_ NB835_852.out _) | exact HI835.out)); (case side2 => repeat (first | (with_reducible first | exact HB.out | apply wa | apply wn | apply wd | refine below_set ?_ (IsS96.ge HI835.out) | refine ws ‹_› ?_) | exact HB.out)); rintro e w32 ⟨rfl, hi, hb, hk⟩; refine ⟨_, rfl, ?_⟩; replace BK831 := az (KeepBut.blk hk (g' := gb831) (o := .cells #[.int .i64 0, .int .i64 0, .slice none 0 0] 25 (0, 0)) (by (with_reducible repeat (first | apply bn | apply bd | apply ba)); exact BK831.out) NB831_835.out (by simp)); replace BK832 := az (KeepBut.blk hk (g' := gb832) (o := .cells #[.int .i64 0, .int .i64 0, .int .i64 0, .int .i64 0, .int .i64 0, .int .i64 0, .int .i64 0, .int .i64 0] 41 (0, 0)) (by (with_reducible repeat (first | apply bn | apply bd | apply ba)); exact BK832.out) NB832_835.out (by simp)); replace HO840 := az (Kd.Q_mono (Kd.Q_keep (IsS96.apartQ (show IsS96 w _ g835 t833 t856 from by repeat (first | (with_reducible first | exact HI835.out | apply IsS96.alloc | apply IsS96.drewN | apply IsS96.drew | apply IsS96.set_1 | refine IsS96.far ?_ NB835_831.out _ | refine IsS96.far ?_ NB835_832.out _ | refine IsS96.far ?_ NB835_842.out _ | refine IsS96.far ?_ NB835_852.out _) | exact HI835.out)) (by (with_reducible repeat (first | apply Kd.Q_alloc | apply Kd.Q_drewN | apply Kd.Q_drew)); exact HO840.out) (by decide)) hk (fun _ h => h.2)) (fun _ h => h.1)); replace BK842 := az (KeepBut.blk hk (g' := gb842) (o := .cells #[.int .i64 t836, .int .i64 t837, .slice Ao22 t838.length co22] 25 (0, 0)) (by (with_reducible repeat (first | apply bn | apply bd | apply ba)); exact BK842.out) NB842_835.out (by simp)); replace BK852 := az (KeepBut.blk hk (g' := gb852) (o := .cells #[.int .i64 t843, .int .i64 t844, .int .i64 t845, .int .i64 t846, .int .i64 t847, .int .i64 t848, .int .i64 t849, .int .i64 t850] 41 (0, 0)) (by (with_reducible repeat (first | apply bn | apply bd | apply ba)); exact BK852.out) NB852_835.out (by simp)); replace HB := az (hb); replace HI835 := az (hi); (try clear hb); (try clear hb2); (try clear hk); (try clear hi)) | ((with_reducible refine gate_callee (f := 77) rfl ?_); refine goesL_ (some 22) rfl rfl Try.func77 (by kernel_rfl) rfl #[.pointer (some ⟨g835, 0, none⟩), .int .i64 3] rfl (by (try simp only [List.map_toArray, List.map_cons, List.map_nil]); first | done | rfl | (simp only [List.length_drop, List.length_take]; rfl)) ?_; (with_reducible refine (spec_l6Rd_pick.calls k g835 t833 t858 3 t859 t860 w _ ?side1 ?side2 A9.out).mono ?_); (case side1 => repeat (first | (with_reducible first | exact HI835.out | apply IsS96.alloc | apply IsS96.drewN | apply IsS96.drew | apply IsS96.set_1 | refine IsS96.far ?_ NB835_831.out _ | refine IsS96.far ?_ NB835_832.out _ | refine IsS96.far ?_ NB835_842.out _ | refine IsS96.far ?_ NB835_852.out _) | exact HI835.out)); (case side2 => repeat (first | (with_reducible first | exact HB.out | apply wa | apply wn | apply wd | refine below_set ?_ (IsS96.ge HI835.out) | refine ws ‹_› ?_) | exact HB.out)); rintro e w33 ⟨rfl, hi, hb, hk⟩; refine ⟨_, rfl, ?_⟩; replace BK831 := az (KeepBut.blk hk (g' := gb831) (o := .cells #[.int .i64 0, .int .i64 0, .slice none 0 0] 25 (0, 0)) (by (with_reducible repeat (first | apply bn | apply bd | apply ba)); exact BK831.out) NB831_835.out (by simp)); replace BK832 := az (KeepBut.blk hk (g' := gb832) (o := .cells #[.int .i64 0, .int .i64 0, .int .i64 0, .int .i64 0, .int .i64 0, .int .i64 0, .int .i64 0, .int .i64 0] 41 (0, 0)) (by (with_reducible repeat (first | apply bn | apply bd | apply ba)); exact BK832.out) NB832_835.out (by simp)); replace HO840 := az (Kd.Q_mono (Kd.Q_keep (IsS96.apartQ (show IsS96 w _ g835 t833 t858 from by repeat (first | (with_reducible first | exact HI835.out | apply IsS96.alloc | apply IsS96.drewN | apply IsS96.drew | apply IsS96.set_1 | refine IsS96.far ?_ NB835_831.out _ | refine IsS96.far ?_ NB835_832.out _ | refine IsS96.far ?_ NB835_842.out _ | refine IsS96.far ?_ NB835_852.out _) | exact HI835.out)) (by (with_reducible repeat (first | apply Kd.Q_alloc | apply Kd.Q_drewN | apply Kd.Q_drew)); exact HO840.out) (by decide)) hk (fun _ h => h.2)) (fun _ h => h.1)); replace BK842 := az (KeepBut.blk hk (g' := gb842) (o := .cells #[.int .i64 t836, .int .i64 t837, .slice Ao22 t838.length co22] 25 (0, 0)) (by (with_reducible repeat (first | apply bn | apply bd | apply ba)); exact BK842.out) NB842_835.out (by simp)); replace BK852 := az (KeepBut.blk hk (g' := gb852) (o := .cells #[.int .i64 t843, .int .i64 t844, .int .i64 t845, .int .i64 t846, .int .i64 t847, .int .i64 t848, .int .i64 t849, .int .i64 t850] 41 (0, 0)) (by (with_reducible repeat (first | apply bn | apply bd | apply ba)); exact BK852.out) NB852_835.out (by simp)); replace HB := az (hb); replace HI835 := az (hi); (try clear hb); (try clear hb2); (try clear hk); (try clear hi)) | ((with_reducible refine gate_callee (f := 77) rfl ?_); refine goesL_ (some 24) rfl rfl Try.func77 (by kernel_rfl) rfl #[.pointer (some ⟨g835, 0, none⟩), .int .i64 10] rfl (by (try simp only [List.map_toArray, List.map_cons, List.map_nil]); first | done | rfl | (simp only [List.length_drop, List.length_take]; rfl)) ?_; (with_reducible refine (spec_l6Rd_pick.calls k g835 t833 t860 10 t861 t862 w _ ?side1 ?side2 A10.out).mono ?_); (case side1 => repeat (first | (with_reducible first | exact HI835.out | apply IsS96.alloc | apply IsS96.drewN | apply IsS96.drew | apply IsS96.set_1 | refine IsS96.far ?_ NB835_831.out _ | refine IsS96.far ?_ NB835_832.out _ | refine IsS96.far ?_ NB835_842.out _ | refine IsS96.far ?_ NB835_852.out _) | exact HI835.out)); (case side2 => repeat (first | (with_reducible first | exact HB.out | apply wa | apply wn | apply wd | refine below_set ?_ (IsS96.ge HI835.out) | refine ws ‹_› ?_) | exact HB.out)); rintro e w34 ⟨rfl, hi, hb, hk⟩; refine ⟨_, rfl, ?_⟩; replace BK831 := az (KeepBut.blk hk (g' := gb831) (o := .cells #[.int .i64 0, .int .i64 0, .slice none 0 0] 25 (0, 0)) (by (with_reducible repeat (first | apply bn | apply bd | apply ba)); exact BK831.out) NB831_835.out (by simp)); replace BK832 := az (KeepBut.blk hk (g' := gb832) (o := .cells #[.int .i64 0, .int .i64 0, .int .i64 0, .int .i64 0, .int .i64 0, .int .i64 0, .int .i64 0, .int .i64 0] 41 (0, 0)) (by (with_reducible repeat (first | apply bn | apply bd | apply ba)); exact BK832.out) NB832_835.out (by simp)); replace HO840 := az (Kd.Q_mono (Kd.Q_keep (IsS96.apartQ (show IsS96 w _ g835 t833 t860 from by repeat (first | (with_reducible first | exact HI835.out | apply IsS96.alloc | apply IsS96.drewN | apply IsS96.drew | apply IsS96.set_1 | refine IsS96.far ?_ NB835_831.out _ | refine IsS96.far ?_ NB835_832.out _ | refine IsS96.far ?_ NB835_842.out _ | refine IsS96.far ?_ NB835_852.out _) | exact HI835.out)) (by (with_reducible repeat (first | apply Kd.Q_alloc | apply Kd.Q_drewN | apply Kd.Q_drew)); exact HO840.out) (by decide)) hk (fun _ h => h.2)) (fun _ h => h.1)); replace BK842 := az (KeepBut.blk hk (g' := gb842) (o := .cells #[.int .i64 t836, .int .i64 t837, .slice Ao22 t838.length co22] 25 (0, 0)) (by (with_reducible repeat (first | apply bn | apply bd | apply ba)); exact BK842.out) NB842_835.out (by simp)); replace BK852 := az (KeepBut.blk hk (g' := gb852) (o := .cells #[.int .i64 t843, .int .i64 t844, .int .i64 t845, .int .i64 t846, .int .i64 t847, .int .i64 t848, .int .i64 t849, .int .i64 t850] 41 (0, 0)) (by (with_reducible repeat (first | apply bn | apply bd | apply ba)); exact BK852.out) NB852_835.out (by simp)); replace HB := az (hb); replace HI835 := az (hi); (try clear hb); (try clear hb2); (try clear hk); (try clear hi); obtain ⟨hcz35_0, hcz35_1, hcz35_2, hcz35_3, hcz35_4, hcz35_5, hcz35_6, hcz35_7⟩ := cz8 BK852; obtain ⟨hfz35_0, hfz35_1, hfz35_2, hfz35_3, hfz35_4, hfz35_5, hfz35_6⟩ := fz7 BK852; have hfz35_7 := blk_frozen BK852.out 7))
    have n0_ : Aside0 (Kd.Q (Kd.int .i64) 3 ((((((((w34.setCell ⟨gb852, 0, none⟩ (.int .i64 1)).setCell ⟨gb852, 1, none⟩ (.int .i64 1)).setCell ⟨gb852, 2, none⟩ (.int .i64 t855)).setCell ⟨gb852, 3, none⟩ (.int .i64 t857)).setCell ⟨gb852, 4, none⟩ (.int .i64 t859)).setCell ⟨gb852, 5, none⟩ (.int .i64 t861)).setCell ⟨gb852, 6, none⟩ (.int .i64 0)).setCell ⟨gb852, 7, none⟩ (.int .i64 0)) w.heap.size (fun _ => True) (.slice Ao22 t838.length co22) t838) := ⟨by (with_reducible repeat (first | apply Kd.Q_alloc | apply Kd.Q_drewN | apply Kd.Q_drew)); exact Kd.Q_mono (Kd.Q_far (p := ⟨gb852, 7, none⟩) (Kd.Q_far (p := ⟨gb852, 6, none⟩) (Kd.Q_far (p := ⟨gb852, 5, none⟩) (Kd.Q_far (p := ⟨gb852, 4, none⟩) (Kd.Q_far (p := ⟨gb852, 3, none⟩) (Kd.Q_far (p := ⟨gb852, 2, none⟩) (Kd.Q_far (p := ⟨gb852, 1, none⟩) (Kd.Q_far (p := ⟨gb852, 0, none⟩) (Kd.Q_types HO840.out BK852.out (by decide)) (fun _ hk => hk.2) (.int .i64 1)) (fun _ hk => hk.2) (.int .i64 1)) (fun _ hk => hk.2) (.int .i64 t855)) (fun _ hk => hk.2) (.int .i64 t857)) (fun _ hk => hk.2) (.int .i64 t859)) (fun _ hk => hk.2) (.int .i64 t861)) (fun _ hk => hk.2) (.int .i64 0)) (fun _ hk => hk.2) (.int .i64 0)) (fun _ hk => trivial)⟩
    have n1_ : Aside0 (((((((((w34.setCell ⟨gb852, 0, none⟩ (.int .i64 1)).setCell ⟨gb852, 1, none⟩ (.int .i64 1)).setCell ⟨gb852, 2, none⟩ (.int .i64 t855)).setCell ⟨gb852, 3, none⟩ (.int .i64 t857)).setCell ⟨gb852, 4, none⟩ (.int .i64 t859)).setCell ⟨gb852, 5, none⟩ (.int .i64 t861)).setCell ⟨gb852, 6, none⟩ (.int .i64 0)).setCell ⟨gb852, 7, none⟩ (.int .i64 0)).heap[gb831]? = some (.cells #[.int .i64 0, .int .i64 0, .slice none 0 0] 25 (0, 0))) := ⟨by (repeat (first | (with_reducible first | apply bn | apply bd | apply ba) | apply bf NB831_852)); exact BK831.out⟩
    have n2_ : Aside0 (((((((((w34.setCell ⟨gb852, 0, none⟩ (.int .i64 1)).setCell ⟨gb852, 1, none⟩ (.int .i64 1)).setCell ⟨gb852, 2, none⟩ (.int .i64 t855)).setCell ⟨gb852, 3, none⟩ (.int .i64 t857)).setCell ⟨gb852, 4, none⟩ (.int .i64 t859)).setCell ⟨gb852, 5, none⟩ (.int .i64 t861)).setCell ⟨gb852, 6, none⟩ (.int .i64 0)).setCell ⟨gb852, 7, none⟩ (.int .i64 0)).heap[gb832]? = some (.cells #[.int .i64 0, .int .i64 0, .int .i64 0, .int .i64 0, .int .i64 0, .int .i64 0, .int .i64 0, .int .i64 0] 41 (0, 0))) := ⟨by (repeat (first | (with_reducible first | apply bn | apply bd | apply ba) | apply bf NB832_852)); exact BK832.out⟩
    have n3_ : Aside0 (((((((((w34.setCell ⟨gb852, 0, none⟩ (.int .i64 1)).setCell ⟨gb852, 1, none⟩ (.int .i64 1)).setCell ⟨gb852, 2, none⟩ (.int .i64 t855)).setCell ⟨gb852, 3, none⟩ (.int .i64 t857)).setCell ⟨gb852, 4, none⟩ (.int .i64 t859)).setCell ⟨gb852, 5, none⟩ (.int .i64 t861)).setCell ⟨gb852, 6, none⟩ (.int .i64 0)).setCell ⟨gb852, 7, none⟩ (.int .i64 0)).heap[gb842]? = some (.cells #[.int .i64 t836, .int .i64 t837, .slice Ao22 t838.length co22] 25 (0, 0))) := ⟨by (repeat (first | (with_reducible first | apply bn | apply bd | apply ba) | apply bf NB842_852)); exact BK842.out⟩
    have n4_ : Aside0 (((((((((w34.setCell ⟨gb852, 0, none⟩ (.int .i64 1)).setCell ⟨gb852, 1, none⟩ (.int .i64 1)).setCell ⟨gb852, 2, none⟩ (.int .i64 t855)).setCell ⟨gb852, 3, none⟩ (.int .i64 t857)).setCell ⟨gb852, 4, none⟩ (.int .i64 t859)).setCell ⟨gb852, 5, none⟩ (.int .i64 t861)).setCell ⟨gb852, 6, none⟩ (.int .i64 0)).setCell ⟨gb852, 7, none⟩ (.int .i64 0)).heap[gb852]? = some (.cells #[.int .i64 1, .int .i64 1, .int .i64 t855, .int .i64 t857, .int .i64 t859, .int .i64 t861, .int .i64 0, .int .i64 0] 41 (0, 0))) := ⟨by (with_reducible repeat (first | apply bn | apply bd | apply ba)); exact p8 BK852⟩
    have n5_ : Aside0 (IsS96 w ((((((((w34.setCell ⟨gb852, 0, none⟩ (.int .i64 1)).setCell ⟨gb852, 1, none⟩ (.int .i64 1)).setCell ⟨gb852, 2, none⟩ (.int .i64 t855)).setCell ⟨gb852, 3, none⟩ (.int .i64 t857)).setCell ⟨gb852, 4, none⟩ (.int .i64 t859)).setCell ⟨gb852, 5, none⟩ (.int .i64 t861)).setCell ⟨gb852, 6, none⟩ (.int .i64 0)).setCell ⟨gb852, 7, none⟩ (.int .i64 0)) g835 t833 t862) := ⟨by repeat (first | (with_reducible first | exact HI835.out | apply IsS96.alloc | apply IsS96.drewN | apply IsS96.drew | apply IsS96.set_1 | refine IsS96.far ?_ NB835_831.out _ | refine IsS96.far ?_ NB835_832.out _ | refine IsS96.far ?_ NB835_842.out _ | refine IsS96.far ?_ NB835_852.out _) | exact HI835.out)⟩
    have n6_ : Aside0 (Below w.heap.size w ((((((((w34.setCell ⟨gb852, 0, none⟩ (.int .i64 1)).setCell ⟨gb852, 1, none⟩ (.int .i64 1)).setCell ⟨gb852, 2, none⟩ (.int .i64 t855)).setCell ⟨gb852, 3, none⟩ (.int .i64 t857)).setCell ⟨gb852, 4, none⟩ (.int .i64 t859)).setCell ⟨gb852, 5, none⟩ (.int .i64 t861)).setCell ⟨gb852, 6, none⟩ (.int .i64 0)).setCell ⟨gb852, 7, none⟩ (.int .i64 0))) := ⟨by repeat (first | (with_reducible first | exact HB.out | apply wa | apply wn | apply wd | refine below_set ?_ (IsS96.ge HI835.out) | refine ws ‹_› ?_) | exact HB.out)⟩
    (try clear HO840)
    (try clear BK831)
    (try clear BK832)
    (try clear BK842)
    (try clear BK852)
    (try clear HI835)
    (try clear HB)
    generalize ((((((((w34.setCell ⟨gb852, 0, none⟩ (.int .i64 1)).setCell ⟨gb852, 1, none⟩ (.int .i64 1)).setCell ⟨gb852, 2, none⟩ (.int .i64 t855)).setCell ⟨gb852, 3, none⟩ (.int .i64 t857)).setCell ⟨gb852, 4, none⟩ (.int .i64 t859)).setCell ⟨gb852, 5, none⟩ (.int .i64 t861)).setCell ⟨gb852, 6, none⟩ (.int .i64 0)).setCell ⟨gb852, 7, none⟩ (.int .i64 0)) = w36 at n0_ n1_ n2_ n3_ n4_ n5_ n6_ ⊢
    have HO840 := n0_
    have BK831 := n1_
    have BK832 := n2_
    have BK842 := n3_
    have BK852 := n4_
    have HI835 := n5_
    have HB := n6_
    clear n0_ n1_ n2_ n3_ n4_ n5_ n6_
    replace HO840 := az (Kd.Q_drew HO840.out)
    replace BK831 := az (blk_drew BK831.out)
    replace BK832 := az (blk_drew BK832.out)
    replace BK842 := az (blk_drew BK842.out)
    replace BK852 := az (blk_drew BK852.out)
    replace HI835 := az (IsS96.drew HI835.out)
    replace HB := az (wd HB.out)
    refine start_ (n := 16) (S := fun w' => w'.cell? ⟨gb842, 0, none⟩ = some (.int .i64 t836) ∧ w'.cell? ⟨gb842, 1, none⟩ = some (.int .i64 t837) ∧ w'.cell? ⟨gb842, 2, none⟩ = some (.slice Ao22 t838.length co22) ∧ w'.cell? ⟨gb852, 0, none⟩ = some (.int .i64 1) ∧ w'.cell? ⟨gb852, 1, none⟩ = some (.int .i64 1) ∧ w'.cell? ⟨gb852, 2, none⟩ = some (.int .i64 t855) ∧ w'.cell? ⟨gb852, 3, none⟩ = some (.int .i64 t857) ∧ w'.cell? ⟨gb852, 4, none⟩ = some (.int .i64 t859) ∧ w'.cell? ⟨gb852, 5, none⟩ = some (.int .i64 t861) ∧ w'.cell? ⟨gb852, 6, none⟩ = some (.int .i64 0) ∧ w'.cell? ⟨gb852, 7, none⟩ = some (.int .i64 0)) (ds := []) #[false, false, false, false, false, false, false, false, false, false, false, false, false, false, false, false] (by kernel_rfl) rfl rfl ⟨bt BK842 rfl, bt BK842 rfl, bt BK842 rfl, bt BK852 rfl, bt BK852 rfl, bt BK852 rfl, bt BK852 rfl, bt BK852 rfl, bt BK852 rfl, bt BK852 rfl, bt BK852 rfl⟩ (fun hHeld => ?_); refine with_tabW spec_DrawRecDo.tab6 spec_DrawRecDo.bits6 (fun HT_ HW_ => ?_)
    generalize w36.drew = w37 at HO840 BK831 BK832 BK842 BK852 HI835 HB hHeld ⊢
    refine pure_ (i := 2) (N := some 28) (v := ?_) (a' := ?_) #[false, false, true, false, false, false, false, false, false, false, false, false, false, false, false, false] rfl rfl (any_of HT_.out (by kernel_rfl)) (fun _ _ _ h => h) (Or.inl ⟨by rfl, ?_⟩) ?_ ?_
    rotate_left
    · intro w'
      go_simp
      with_reducible rfl
    rotate_left
    · simp only [Act.put, List.setIfInBounds_toArray, List.set_cons_zero, List.set_cons_succ, i64_w, i32_w]
      rfl
    refine pure_ (i := 5) (N := some 31) (v := ?_) (a' := ?_) #[false, false, true, false, false, true, false, false, false, false, false, false, false, false, false, false] rfl rfl (any_of HT_.out (by kernel_rfl)) (fun _ _ _ h => h) (Or.inl ⟨by rfl, ?_⟩) ?_ ?_
    rotate_left
    · intro w'
      go_simp
      with_reducible rfl
    rotate_left
    · simp only [Act.put, List.setIfInBounds_toArray, List.set_cons_zero, List.set_cons_succ, i64_w, i32_w]
      rfl
    refine pure_ (i := 8) (N := some 34) (v := ?_) (a' := ?_) #[false, false, true, false, false, true, false, false, true, false, false, false, false, false, false, false] rfl rfl (any_of HT_.out (by kernel_rfl)) (fun _ _ _ h => h) (Or.inl ⟨by rfl, ?_⟩) ?_ ?_
    rotate_left
    · intro w'
      go_simp
      with_reducible rfl
    rotate_left
    · simp only [Act.put, List.setIfInBounds_toArray, List.set_cons_zero, List.set_cons_succ, i64_w, i32_w]
      rfl
    refine take_ (i := 0) (N := some 26) (v := ?_) (a' := ?_) #[true, false, true, false, false, true, false, false, true, false, false, false, false, false, false, false] rfl rfl (take_ofW HT_.out HW_.out (by kernel_rfl)) (fun _ _ _ h => h) (Or.inl ⟨by rfl, ?_⟩) hHeld ?_ ?_
    rotate_left
    · rintro w' ⟨s0, s1, s2, s3, s4, s5, s6, s7, s8, s9, s10⟩
      go_simp
      with_reducible rfl
    rotate_left
    · simp only [Act.put, List.setIfInBounds_toArray, List.set_cons_zero, List.set_cons_succ, i64_w, i32_w]
      rfl
    refine take_ (i := 1) (N := some 27) (v := ?_) (a' := ?_) #[true, true, true, false, false, true, false, false, true, false, false, false, false, false, false, false] rfl rfl (take_ofW HT_.out HW_.out (by kernel_rfl)) (fun _ _ _ h => h) (Or.inl ⟨by rfl, ?_⟩) hHeld ?_ ?_
    rotate_left
    · rintro w' ⟨s0, s1, s2, s3, s4, s5, s6, s7, s8, s9, s10⟩
      go_simp
      with_reducible rfl
    rotate_left
    · simp only [Act.put, List.setIfInBounds_toArray, List.set_cons_zero, List.set_cons_succ, i64_w, i32_w]
      rfl
    refine take_ (i := 3) (N := some 29) (v := ?_) (a' := ?_) #[true, true, true, true, false, true, false, false, true, false, false, false, false, false, false, false] rfl rfl (take_ofW HT_.out HW_.out (by kernel_rfl)) (fun _ _ _ h => h) (Or.inl ⟨by rfl, ?_⟩) hHeld ?_ ?_
    rotate_left
    · rintro w' ⟨s0, s1, s2, s3, s4, s5, s6, s7, s8, s9, s10⟩
      go_simp
      with_reducible rfl
    rotate_left
    · simp only [Act.put, List.setIfInBounds_toArray, List.set_cons_zero, List.set_cons_succ, i64_w, i32_w]
      rfl
    refine pure_ (i := 4) (N := some 30) (v := ?_) (a' := ?_) #[true, true, true, true, true, true, false, false, true, false, false, false, false, false, false, false] rfl rfl (any_of HT_.out (by kernel_rfl)) (fun _ _ _ h => h) (Or.inl ⟨by rfl, ?_⟩) ?_ ?_
    rotate_left
    · intro w'
      go_simp
      with_reducible rfl
    rotate_left
    · simp only [Act.put, List.setIfInBounds_toArray, List.set_cons_zero, List.set_cons_succ, i64_w, i32_w]
      rfl
    refine one_ (i := 6) (N := some 32) #[true, true, true, true, true, true, true, false, true, false, false, false, false, false, false, false] rfl rfl (one_of HT_.out (by kernel_rfl)) (by decide) (fun K hK => ?_)
    refine goes_ Try.func77 (by kernel_rfl) rfl #[.pointer (some ⟨g835, 0, none⟩), .int .i64 6] (by rfl) rfl rfl (by (try simp only [List.map_toArray, List.map_cons, List.map_nil]); first | done | rfl | (simp only [List.length_drop, List.length_take]; rfl)) ?_
    with_reducible refine (spec_l6Rd_pick.calls k g835 t833 t862 6 t863 t864 w _ ?side1 ?side2 A11.out).mono ?_
    (case side1 => repeat (first | (with_reducible first | exact HI835.out | apply IsS96.alloc | apply IsS96.drewN | apply IsS96.drew | apply IsS96.set_1 | refine IsS96.far ?_ NB835_831.out _ | refine IsS96.far ?_ NB835_832.out _ | refine IsS96.far ?_ NB835_842.out _ | refine IsS96.far ?_ NB835_852.out _) | exact HI835.out))
    (case side2 => repeat (first | (with_reducible first | exact HB.out | apply wa | apply wn | apply wd | refine below_set ?_ (IsS96.ge HI835.out) | refine ws ‹_› ?_) | exact HB.out))
    rintro e w38 ⟨rfl, hi, hb, hk⟩
    refine ⟨_, rfl, ?_⟩
    replace BK831 := az (KeepBut.blk hk (g' := gb831) (o := .cells #[.int .i64 0, .int .i64 0, .slice none 0 0] 25 (0, 0)) (by (with_reducible repeat (first | apply bn | apply bd | apply ba)); exact BK831.out) NB831_835.out (by simp))
    replace BK832 := az (KeepBut.blk hk (g' := gb832) (o := .cells #[.int .i64 0, .int .i64 0, .int .i64 0, .int .i64 0, .int .i64 0, .int .i64 0, .int .i64 0, .int .i64 0] 41 (0, 0)) (by (with_reducible repeat (first | apply bn | apply bd | apply ba)); exact BK832.out) NB832_835.out (by simp))
    replace HO840 := az (Kd.Q_mono (Kd.Q_keep (IsS96.apartQ (show IsS96 w _ g835 t833 t862 from by repeat (first | (with_reducible first | exact HI835.out | apply IsS96.alloc | apply IsS96.drewN | apply IsS96.drew | apply IsS96.set_1 | refine IsS96.far ?_ NB835_831.out _ | refine IsS96.far ?_ NB835_832.out _ | refine IsS96.far ?_ NB835_842.out _ | refine IsS96.far ?_ NB835_852.out _) | exact HI835.out)) (by (with_reducible repeat (first | apply Kd.Q_alloc | apply Kd.Q_drewN | apply Kd.Q_drew)); exact HO840.out) (by decide)) hk (fun _ h => h.2)) (fun _ h => h.1))
    replace BK842 := az (KeepBut.blk hk (g' := gb842) (o := .cells #[.int .i64 t836, .int .i64 t837, .slice Ao22 t838.length co22] 25 (0, 0)) (by (with_reducible repeat (first | apply bn | apply bd | apply ba)); exact BK842.out) NB842_835.out (by simp))
    replace BK852 := az (KeepBut.blk hk (g' := gb852) (o := .cells #[.int .i64 1, .int .i64 1, .int .i64 t855, .int .i64 t857, .int .i64 t859, .int .i64 t861, .int .i64 0, .int .i64 0] 41 (0, 0)) (by (with_reducible repeat (first | apply bn | apply bd | apply ba)); exact BK852.out) NB852_835.out (by simp))
    replace HB := az (hb)
    replace HI835 := az (hi)
    (try clear hb)
    (try clear hb2)
    (try clear hk)
    (try clear hi)
    refine hK.out _ _ ⟨bt BK842 rfl, bt BK842 rfl, bt BK842 rfl, bt BK852 rfl, bt BK852 rfl, bt BK852 rfl, bt BK852 rfl, bt BK852 rfl, bt BK852 rfl, bt BK852 rfl, bt BK852 rfl⟩ (fun hHeld => ?_)
    clear hK K
    refine norm_ (a' := ?_) ?_ ?_
    rotate_left
    · show Act.put _ (some 32) _ = _
      simp only [Act.put, List.setIfInBounds_toArray, List.set_cons_zero, List.set_cons_succ, i64_w, i32_w]
      rfl
    refine pure_ (i := 7) (N := some 33) (v := ?_) (a' := ?_) #[true, true, true, true, true, true, true, true, true, false, false, false, false, false, false, false] rfl rfl (any_of HT_.out (by kernel_rfl)) (fun _ _ _ h => h) (Or.inl ⟨by rfl, ?_⟩) ?_ ?_
    rotate_left
    · intro w'
      go_simp
      with_reducible rfl
    rotate_left
    · simp only [Act.put, List.setIfInBounds_toArray, List.set_cons_zero, List.set_cons_succ, i64_w, i32_w]
      rfl
    refine one_ (i := 9) (N := some 35) #[true, true, true, true, true, true, true, true, true, true, false, false, false, false, false, false] rfl rfl (one_of HT_.out (by kernel_rfl)) (by decide) (fun K hK => ?_)
    refine goes_ Try.func77 (by kernel_rfl) rfl #[.pointer (some ⟨g835, 0, none⟩), .int .i64 24] (by rfl) rfl rfl (by (try simp only [List.map_toArray, List.map_cons, List.map_nil]); first | done | rfl | (simp only [List.length_drop, List.length_take]; rfl)) ?_
    with_reducible refine (spec_l6Rd_pick.calls k g835 t833 t864 24 t865 t866 w _ ?side1 ?side2 A12.out).mono ?_
    (case side1 => repeat (first | (with_reducible first | exact HI835.out | apply IsS96.alloc | apply IsS96.drewN | apply IsS96.drew | apply IsS96.set_1 | refine IsS96.far ?_ NB835_831.out _ | refine IsS96.far ?_ NB835_832.out _ | refine IsS96.far ?_ NB835_842.out _ | refine IsS96.far ?_ NB835_852.out _) | exact HI835.out))
    (case side2 => repeat (first | (with_reducible first | exact HB.out | apply wa | apply wn | apply wd | refine below_set ?_ (IsS96.ge HI835.out) | refine ws ‹_› ?_) | exact HB.out))
    rintro e w39 ⟨rfl, hi, hb, hk⟩
    refine ⟨_, rfl, ?_⟩
    replace BK831 := az (KeepBut.blk hk (g' := gb831) (o := .cells #[.int .i64 0, .int .i64 0, .slice none 0 0] 25 (0, 0)) (by (with_reducible repeat (first | apply bn | apply bd | apply ba)); exact BK831.out) NB831_835.out (by simp))
    replace BK832 := az (KeepBut.blk hk (g' := gb832) (o := .cells #[.int .i64 0, .int .i64 0, .int .i64 0, .int .i64 0, .int .i64 0, .int .i64 0, .int .i64 0, .int .i64 0] 41 (0, 0)) (by (with_reducible repeat (first | apply bn | apply bd | apply ba)); exact BK832.out) NB832_835.out (by simp))
    replace HO840 := az (Kd.Q_mono (Kd.Q_keep (IsS96.apartQ (show IsS96 w _ g835 t833 t864 from by repeat (first | (with_reducible first | exact HI835.out | apply IsS96.alloc | apply IsS96.drewN | apply IsS96.drew | apply IsS96.set_1 | refine IsS96.far ?_ NB835_831.out _ | refine IsS96.far ?_ NB835_832.out _ | refine IsS96.far ?_ NB835_842.out _ | refine IsS96.far ?_ NB835_852.out _) | exact HI835.out)) (by (with_reducible repeat (first | apply Kd.Q_alloc | apply Kd.Q_drewN | apply Kd.Q_drew)); exact HO840.out) (by decide)) hk (fun _ h => h.2)) (fun _ h => h.1))
    replace BK842 := az (KeepBut.blk hk (g' := gb842) (o := .cells #[.int .i64 t836, .int .i64 t837, .slice Ao22 t838.length co22] 25 (0, 0)) (by (with_reducible repeat (first | apply bn | apply bd | apply ba)); exact BK842.out) NB842_835.out (by simp))
    replace BK852 := az (KeepBut.blk hk (g' := gb852) (o := .cells #[.int .i64 1, .int .i64 1, .int .i64 t855, .int .i64 t857, .int .i64 t859, .int .i64 t861, .int .i64 0, .int .i64 0] 41 (0, 0)) (by (with_reducible repeat (first | apply bn | apply bd | apply ba)); exact BK852.out) NB852_835.out (by simp))
    replace HB := az (hb)
    replace HI835 := az (hi)
    (try clear hb)
    (try clear hb2)
    (try clear hk)
    (try clear hi)
    refine hK.out _ _ ⟨bt BK842 rfl, bt BK842 rfl, bt BK842 rfl, bt BK852 rfl, bt BK852 rfl, bt BK852 rfl, bt BK852 rfl, bt BK852 rfl, bt BK852 rfl, bt BK852 rfl, bt BK852 rfl⟩ (fun hHeld => ?_)
    clear hK K
    refine norm_ (a' := ?_) ?_ ?_
    rotate_left
    · show Act.put _ (some 35) _ = _
      simp only [Act.put, List.setIfInBounds_toArray, List.set_cons_zero, List.set_cons_succ, i64_w, i32_w]
      rfl
    refine pure_ (i := 10) (N := some 36) (v := ?_) (a' := ?_) #[true, true, true, true, true, true, true, true, true, true, true, false, false, false, false, false] rfl rfl (any_of HT_.out (by kernel_rfl)) (fun _ _ _ h => h) (Or.inl ⟨by rfl, ?_⟩) ?_ ?_
    rotate_left
    · intro w'
      go_simp
      with_reducible rfl
    rotate_left
    · simp only [Act.put, List.setIfInBounds_toArray, List.set_cons_zero, List.set_cons_succ, i64_w, i32_w]
      rfl
    refine pure_ (i := 11) (N := some 37) (v := ?_) (a' := ?_) #[true, true, true, true, true, true, true, true, true, true, true, true, false, false, false, false] rfl rfl (any_of HT_.out (by kernel_rfl)) (fun _ _ _ h => h) (Or.inl ⟨by rfl, ?_⟩) ?_ ?_
    rotate_left
    · intro w'
      go_simp
      with_reducible rfl
    rotate_left
    · simp only [Act.put, List.setIfInBounds_toArray, List.set_cons_zero, List.set_cons_succ, i64_w, i32_w]
      rfl
    refine pure_ (i := 12) (N := some 38) (v := ?_) (a' := ?_) #[true, true, true, true, true, true, true, true, true, true, true, true, true, false, false, false] rfl rfl (any_of HT_.out (by kernel_rfl)) (fun _ _ _ h => h) (Or.inl ⟨by rfl, ?_⟩) ?_ ?_
    rotate_left
    · intro w'
      go_simp
      with_reducible rfl
    rotate_left
    · simp only [Act.put, List.setIfInBounds_toArray, List.set_cons_zero, List.set_cons_succ, i64_w, i32_w]
      rfl
    refine one_ (i := 13) (N := none) #[true, true, true, true, true, true, true, true, true, true, true, true, true, true, false, false] rfl rfl (one_of HT_.out (by kernel_rfl)) (by decide) (fun K hK => ?_)
    have hs40 : w39.cell? ⟨gb831, 0, none⟩ = some (.int .i64 0) := bt BK831 rfl
    have hfs40 := blk_frozen BK831.out 0
    have hns40_1 := NB832_831.out
    have hns40_2 := NB842_831.out
    have hns40_3 := NB852_831.out
    have hms40_1 := NB831_832.out
    have hms40_2 := NB831_842.out
    have hms40_3 := NB831_852.out
    have hs41 : w39.cell? ⟨gb831, 1, none⟩ = some (.int .i64 0) := bt BK831 rfl
    have hfs41 := blk_frozen BK831.out 1
    have hns41_1 := NB832_831.out
    have hns41_2 := NB842_831.out
    have hns41_3 := NB852_831.out
    have hms41_1 := NB831_832.out
    have hms41_2 := NB831_842.out
    have hms41_3 := NB831_852.out
    have hs42 : w39.cell? ⟨gb831, 2, none⟩ = some (.slice none 0 0) := bt BK831 rfl
    have hfs42 := blk_frozen BK831.out 2
    have hns42_1 := NB832_831.out
    have hns42_2 := NB842_831.out
    have hns42_3 := NB852_831.out
    have hms42_1 := NB831_832.out
    have hms42_2 := NB831_842.out
    have hms42_3 := NB831_852.out
    refine skip_ (w1 := ?_) (by rfl) rfl ?_ ?_
    rotate_left
    · go_simp
      rfl
    refine hK.out _ _ ⟨((cell_far (p := ⟨gb831, _, none⟩) NB842_831.out _).trans (((cell_far (p := ⟨gb831, _, none⟩) NB842_831.out _).trans (((cell_far (p := ⟨gb831, _, none⟩) NB842_831.out _).trans (hHeld.1)))))), ((cell_far (p := ⟨gb831, _, none⟩) NB842_831.out _).trans (((cell_far (p := ⟨gb831, _, none⟩) NB842_831.out _).trans (((cell_far (p := ⟨gb831, _, none⟩) NB842_831.out _).trans (hHeld.2.1)))))), ((cell_far (p := ⟨gb831, _, none⟩) NB842_831.out _).trans (((cell_far (p := ⟨gb831, _, none⟩) NB842_831.out _).trans (((cell_far (p := ⟨gb831, _, none⟩) NB842_831.out _).trans (hHeld.2.2.1)))))), ((cell_far (p := ⟨gb831, _, none⟩) NB852_831.out _).trans (((cell_far (p := ⟨gb831, _, none⟩) NB852_831.out _).trans (((cell_far (p := ⟨gb831, _, none⟩) NB852_831.out _).trans (hHeld.2.2.2.1)))))), ((cell_far (p := ⟨gb831, _, none⟩) NB852_831.out _).trans (((cell_far (p := ⟨gb831, _, none⟩) NB852_831.out _).trans (((cell_far (p := ⟨gb831, _, none⟩) NB852_831.out _).trans (hHeld.2.2.2.2.1)))))), ((cell_far (p := ⟨gb831, _, none⟩) NB852_831.out _).trans (((cell_far (p := ⟨gb831, _, none⟩) NB852_831.out _).trans (((cell_far (p := ⟨gb831, _, none⟩) NB852_831.out _).trans (hHeld.2.2.2.2.2.1)))))), ((cell_far (p := ⟨gb831, _, none⟩) NB852_831.out _).trans (((cell_far (p := ⟨gb831, _, none⟩) NB852_831.out _).trans (((cell_far (p := ⟨gb831, _, none⟩) NB852_831.out _).trans (hHeld.2.2.2.2.2.2.1)))))), ((cell_far (p := ⟨gb831, _, none⟩) NB852_831.out _).trans (((cell_far (p := ⟨gb831, _, none⟩) NB852_831.out _).trans (((cell_far (p := ⟨gb831, _, none⟩) NB852_831.out _).trans (hHeld.2.2.2.2.2.2.2.1)))))), ((cell_far (p := ⟨gb831, _, none⟩) NB852_831.out _).trans (((cell_far (p := ⟨gb831, _, none⟩) NB852_831.out _).trans (((cell_far (p := ⟨gb831, _, none⟩) NB852_831.out _).trans (hHeld.2.2.2.2.2.2.2.2.1)))))), ((cell_far (p := ⟨gb831, _, none⟩) NB852_831.out _).trans (((cell_far (p := ⟨gb831, _, none⟩) NB852_831.out _).trans (((cell_far (p := ⟨gb831, _, none⟩) NB852_831.out _).trans (hHeld.2.2.2.2.2.2.2.2.2.1)))))), ((cell_far (p := ⟨gb831, _, none⟩) NB852_831.out _).trans (((cell_far (p := ⟨gb831, _, none⟩) NB852_831.out _).trans (((cell_far (p := ⟨gb831, _, none⟩) NB852_831.out _).trans (hHeld.2.2.2.2.2.2.2.2.2.2))))))⟩ (fun hHeld => ?_)
    clear hK K
    refine one_ (i := 14) (N := none) #[true, true, true, true, true, true, true, true, true, true, true, true, true, true, true, false] rfl rfl (one_of HT_.out (by kernel_rfl)) (by decide) (fun K hK => ?_)
    have hs43 : w39.cell? ⟨gb832, 0, none⟩ = some (.int .i64 0) := bt BK832 rfl
    have hfs43 := blk_frozen BK832.out 0
    have hns43_0 := NB831_832.out
    have hns43_2 := NB842_832.out
    have hns43_3 := NB852_832.out
    have hms43_0 := NB832_831.out
    have hms43_2 := NB832_842.out
    have hms43_3 := NB832_852.out
    have hs44 : w39.cell? ⟨gb832, 1, none⟩ = some (.int .i64 0) := bt BK832 rfl
    have hfs44 := blk_frozen BK832.out 1
    have hns44_0 := NB831_832.out
    have hns44_2 := NB842_832.out
    have hns44_3 := NB852_832.out
    have hms44_0 := NB832_831.out
    have hms44_2 := NB832_842.out
    have hms44_3 := NB832_852.out
    have hs45 : w39.cell? ⟨gb832, 2, none⟩ = some (.int .i64 0) := bt BK832 rfl
    have hfs45 := blk_frozen BK832.out 2
    have hns45_0 := NB831_832.out
    have hns45_2 := NB842_832.out
    have hns45_3 := NB852_832.out
    have hms45_0 := NB832_831.out
    have hms45_2 := NB832_842.out
    have hms45_3 := NB832_852.out
    have hs46 : w39.cell? ⟨gb832, 3, none⟩ = some (.int .i64 0) := bt BK832 rfl
    have hfs46 := blk_frozen BK832.out 3
    have hns46_0 := NB831_832.out
    have hns46_2 := NB842_832.out
    have hns46_3 := NB852_832.out
    have hms46_0 := NB832_831.out
    have hms46_2 := NB832_842.out
    have hms46_3 := NB832_852.out
    have hs47 : w39.cell? ⟨gb832, 4, none⟩ = some (.int .i64 0) := bt BK832 rfl
    have hfs47 := blk_frozen BK832.out 4
    have hns47_0 := NB831_832.out
    have hns47_2 := NB842_832.out
    have hns47_3 := NB852_832.out
    have hms47_0 := NB832_831.out
    have hms47_2 := NB832_842.out
    have hms47_3 := NB832_852.out
    have hs48 : w39.cell? ⟨gb832, 5, none⟩ = some (.int .i64 0) := bt BK832 rfl
    have hfs48 := blk_frozen BK832.out 5
    have hns48_0 := NB831_832.out
    have hns48_2 := NB842_832.out
    have hns48_3 := NB852_832.out
    have hms48_0 := NB832_831.out
    have hms48_2 := NB832_842.out
    have hms48_3 := NB832_852.out
    have hs49 : w39.cell? ⟨gb832, 6, none⟩ = some (.int .i64 0) := bt BK832 rfl
    have hfs49 := blk_frozen BK832.out 6
    have hns49_0 := NB831_832.out
    have hns49_2 := NB842_832.out
    have hns49_3 := NB852_832.out
    have hms49_0 := NB832_831.out
    have hms49_2 := NB832_842.out
    have hms49_3 := NB832_852.out
    have hs50 : w39.cell? ⟨gb832, 7, none⟩ = some (.int .i64 0) := bt BK832 rfl
    have hfs50 := blk_frozen BK832.out 7
    have hns50_0 := NB831_832.out
    have hns50_2 := NB842_832.out
    have hns50_3 := NB852_832.out
    have hms50_0 := NB832_831.out
    have hms50_2 := NB832_842.out
    have hms50_3 := NB832_852.out
    refine skip_ (w1 := ?_) (by rfl) rfl ?_ ?_
    rotate_left
    · go_simp
      rfl
    refine hK.out _ _ ⟨((cell_far (p := ⟨gb832, _, none⟩) NB842_832.out _).trans (((cell_far (p := ⟨gb832, _, none⟩) NB842_832.out _).trans (((cell_far (p := ⟨gb832, _, none⟩) NB842_832.out _).trans (((cell_far (p := ⟨gb832, _, none⟩) NB842_832.out _).trans (((cell_far (p := ⟨gb832, _, none⟩) NB842_832.out _).trans (((cell_far (p := ⟨gb832, _, none⟩) NB842_832.out _).trans (((cell_far (p := ⟨gb832, _, none⟩) NB842_832.out _).trans (((cell_far (p := ⟨gb832, _, none⟩) NB842_832.out _).trans (hHeld.1)))))))))))))))), ((cell_far (p := ⟨gb832, _, none⟩) NB842_832.out _).trans (((cell_far (p := ⟨gb832, _, none⟩) NB842_832.out _).trans (((cell_far (p := ⟨gb832, _, none⟩) NB842_832.out _).trans (((cell_far (p := ⟨gb832, _, none⟩) NB842_832.out _).trans (((cell_far (p := ⟨gb832, _, none⟩) NB842_832.out _).trans (((cell_far (p := ⟨gb832, _, none⟩) NB842_832.out _).trans (((cell_far (p := ⟨gb832, _, none⟩) NB842_832.out _).trans (((cell_far (p := ⟨gb832, _, none⟩) NB842_832.out _).trans (hHeld.2.1)))))))))))))))), ((cell_far (p := ⟨gb832, _, none⟩) NB842_832.out _).trans (((cell_far (p := ⟨gb832, _, none⟩) NB842_832.out _).trans (((cell_far (p := ⟨gb832, _, none⟩) NB842_832.out _).trans (((cell_far (p := ⟨gb832, _, none⟩) NB842_832.out _).trans (((cell_far (p := ⟨gb832, _, none⟩) NB842_832.out _).trans (((cell_far (p := ⟨gb832, _, none⟩) NB842_832.out _).trans (((cell_far (p := ⟨gb832, _, none⟩) NB842_832.out _).trans (((cell_far (p := ⟨gb832, _, none⟩) NB842_832.out _).trans (hHeld.2.2.1)))))))))))))))), ((cell_far (p := ⟨gb832, _, none⟩) NB852_832.out _).trans (((cell_far (p := ⟨gb832, _, none⟩) NB852_832.out _).trans (((cell_far (p := ⟨gb832, _, none⟩) NB852_832.out _).trans (((cell_far (p := ⟨gb832, _, none⟩) NB852_832.out _).trans (((cell_far (p := ⟨gb832, _, none⟩) NB852_832.out _).trans (((cell_far (p := ⟨gb832, _, none⟩) NB852_832.out _).trans (((cell_far (p := ⟨gb832, _, none⟩) NB852_832.out _).trans (((cell_far (p := ⟨gb832, _, none⟩) NB852_832.out _).trans (hHeld.2.2.2.1)))))))))))))))), ((cell_far (p := ⟨gb832, _, none⟩) NB852_832.out _).trans (((cell_far (p := ⟨gb832, _, none⟩) NB852_832.out _).trans (((cell_far (p := ⟨gb832, _, none⟩) NB852_832.out _).trans (((cell_far (p := ⟨gb832, _, none⟩) NB852_832.out _).trans (((cell_far (p := ⟨gb832, _, none⟩) NB852_832.out _).trans (((cell_far (p := ⟨gb832, _, none⟩) NB852_832.out _).trans (((cell_far (p := ⟨gb832, _, none⟩) NB852_832.out _).trans (((cell_far (p := ⟨gb832, _, none⟩) NB852_832.out _).trans (hHeld.2.2.2.2.1)))))))))))))))), ((cell_far (p := ⟨gb832, _, none⟩) NB852_832.out _).trans (((cell_far (p := ⟨gb832, _, none⟩) NB852_832.out _).trans (((cell_far (p := ⟨gb832, _, none⟩) NB852_832.out _).trans (((cell_far (p := ⟨gb832, _, none⟩) NB852_832.out _).trans (((cell_far (p := ⟨gb832, _, none⟩) NB852_832.out _).trans (((cell_far (p := ⟨gb832, _, none⟩) NB852_832.out _).trans (((cell_far (p := ⟨gb832, _, none⟩) NB852_832.out _).trans (((cell_far (p := ⟨gb832, _, none⟩) NB852_832.out _).trans (hHeld.2.2.2.2.2.1)))))))))))))))), ((cell_far (p := ⟨gb832, _, none⟩) NB852_832.out _).trans (((cell_far (p := ⟨gb832, _, none⟩) NB852_832.out _).trans (((cell_far (p := ⟨gb832, _, none⟩) NB852_832.out _).trans (((cell_far (p := ⟨gb832, _, none⟩) NB852_832.out _).trans (((cell_far (p := ⟨gb832, _, none⟩) NB852_832.out _).trans (((cell_far (p := ⟨gb832, _, none⟩) NB852_832.out _).trans (((cell_far (p := ⟨gb832, _, none⟩) NB852_832.out _).trans (((cell_far (p := ⟨gb832, _, none⟩) NB852_832.out _).trans (hHeld.2.2.2.2.2.2.1)))))))))))))))), ((cell_far (p := ⟨gb832, _, none⟩) NB852_832.out _).trans (((cell_far (p := ⟨gb832, _, none⟩) NB852_832.out _).trans (((cell_far (p := ⟨gb832, _, none⟩) NB852_832.out _).trans (((cell_far (p := ⟨gb832, _, none⟩) NB852_832.out _).trans (((cell_far (p := ⟨gb832, _, none⟩) NB852_832.out _).trans (((cell_far (p := ⟨gb832, _, none⟩) NB852_832.out _).trans (((cell_far (p := ⟨gb832, _, none⟩) NB852_832.out _).trans (((cell_far (p := ⟨gb832, _, none⟩) NB852_832.out _).trans (hHeld.2.2.2.2.2.2.2.1)))))))))))))))), ((cell_far (p := ⟨gb832, _, none⟩) NB852_832.out _).trans (((cell_far (p := ⟨gb832, _, none⟩) NB852_832.out _).trans (((cell_far (p := ⟨gb832, _, none⟩) NB852_832.out _).trans (((cell_far (p := ⟨gb832, _, none⟩) NB852_832.out _).trans (((cell_far (p := ⟨gb832, _, none⟩) NB852_832.out _).trans (((cell_far (p := ⟨gb832, _, none⟩) NB852_832.out _).trans (((cell_far (p := ⟨gb832, _, none⟩) NB852_832.out _).trans (((cell_far (p := ⟨gb832, _, none⟩) NB852_832.out _).trans (hHeld.2.2.2.2.2.2.2.2.1)))))))))))))))), ((cell_far (p := ⟨gb832, _, none⟩) NB852_832.out _).trans (((cell_far (p := ⟨gb832, _, none⟩) NB852_832.out _).trans (((cell_far (p := ⟨gb832, _, none⟩) NB852_832.out _).trans (((cell_far (p := ⟨gb832, _, none⟩) NB852_832.out _).trans (((cell_far (p := ⟨gb832, _, none⟩) NB852_832.out _).trans (((cell_far (p := ⟨gb832, _, none⟩) NB852_832.out _).trans (((cell_far (p := ⟨gb832, _, none⟩) NB852_832.out _).trans (((cell_far (p := ⟨gb832, _, none⟩) NB852_832.out _).trans (hHeld.2.2.2.2.2.2.2.2.2.1)))))))))))))))), ((cell_far (p := ⟨gb832, _, none⟩) NB852_832.out _).trans (((cell_far (p := ⟨gb832, _, none⟩) NB852_832.out _).trans (((cell_far (p := ⟨gb832, _, none⟩) NB852_832.out _).trans (((cell_far (p := ⟨gb832, _, none⟩) NB852_832.out _).trans (((cell_far (p := ⟨gb832, _, none⟩) NB852_832.out _).trans (((cell_far (p := ⟨gb832, _, none⟩) NB852_832.out _).trans (((cell_far (p := ⟨gb832, _, none⟩) NB852_832.out _).trans (((cell_far (p := ⟨gb832, _, none⟩) NB852_832.out _).trans (hHeld.2.2.2.2.2.2.2.2.2.2))))))))))))))))⟩ (fun hHeld => ?_)
    clear hK K
    refine pure_ (i := 15) (N := some 4) (v := ?_) (a' := ?_) #[true, true, true, true, true, true, true, true, true, true, true, true, true, true, true, true] rfl rfl (any_of HT_.out (by kernel_rfl)) (fun _ _ _ h => h) (Or.inl ⟨by rfl, ?_⟩) ?_ ?_
    rotate_left
    · intro w'
      go_simp
      with_reducible rfl
    rotate_left
    · simp only [Act.put, List.setIfInBounds_toArray, List.set_cons_zero, List.set_cons_succ, i64_w, i32_w]
      rfl
    refine done_ (done_of HT_.out (by kernel_rfl)) ?_
    try go_wp2
    refine bodyPost_ret (results_list (rs := [.cell 2 25, .cell 3 41, .tmp 4]) rfl (by simp) (.cell gb831 25 #[.int .i64 t836, .int .i64 t837, .slice Ao22 t838.length co22] (0, 0) _ rfl (by (with_reducible repeat (first | apply bn | apply bd | apply ba)); refine blk_far ?_ NB831_832.out _; (with_reducible repeat (first | apply bn | apply bd | apply ba)); refine blk_far ?_ NB831_832.out _; (with_reducible repeat (first | apply bn | apply bd | apply ba)); refine blk_far ?_ NB831_832.out _; (with_reducible repeat (first | apply bn | apply bd | apply ba)); refine blk_far ?_ NB831_832.out _; (with_reducible repeat (first | apply bn | apply bd | apply ba)); refine blk_far ?_ NB831_832.out _; (with_reducible repeat (first | apply bn | apply bd | apply ba)); refine blk_far ?_ NB831_832.out _; (with_reducible repeat (first | apply bn | apply bd | apply ba)); refine blk_far ?_ NB831_832.out _; (with_reducible repeat (first | apply bn | apply bd | apply ba)); refine blk_far ?_ NB831_832.out _; (with_reducible repeat (first | apply bn | apply bd | apply ba)); exact p3 BK831) Try.underlying25 rfl (by kernel_rfl) (.cell gb832 41 #[.int .i64 1, .int .i64 1, .int .i64 t855, .int .i64 t857, .int .i64 t859, .int .i64 t861, .int .i64 0, .int .i64 0] (0, 0) _ rfl (by (with_reducible repeat (first | apply bn | apply bd | apply ba)); refine blk_put (cs := #[.int .i64 1, .int .i64 1, .int .i64 t855, .int .i64 t857, .int .i64 t859, .int .i64 t861, .int .i64 0, .int .i64 0]) ?_ 7 _ rfl; (with_reducible repeat (first | apply bn | apply bd | apply ba)); refine blk_put (cs := #[.int .i64 1, .int .i64 1, .int .i64 t855, .int .i64 t857, .int .i64 t859, .int .i64 t861, .int .i64 0, .int .i64 0]) ?_ 6 _ rfl; (with_reducible repeat (first | apply bn | apply bd | apply ba)); refine blk_put (cs := #[.int .i64 1, .int .i64 1, .int .i64 t855, .int .i64 t857, .int .i64 t859, .int .i64 0, .int .i64 0, .int .i64 0]) ?_ 5 _ rfl; (with_reducible repeat (first | apply bn | apply bd | apply ba)); refine blk_put (cs := #[.int .i64 1, .int .i64 1, .int .i64 t855, .int .i64 t857, .int .i64 0, .int .i64 0, .int .i64 0, .int .i64 0]) ?_ 4 _ rfl; (with_reducible repeat (first | apply bn | apply bd | apply ba)); refine blk_put (cs := #[.int .i64 1, .int .i64 1, .int .i64 t855, .int .i64 0, .int .i64 0, .int .i64 0, .int .i64 0, .int .i64 0]) ?_ 3 _ rfl; (with_reducible repeat (first | apply bn | apply bd | apply ba)); refine blk_put (cs := #[.int .i64 1, .int .i64 1, .int .i64 0, .int .i64 0, .int .i64 0, .int .i64 0, .int .i64 0, .int .i64 0]) ?_ 2 _ rfl; (with_reducible repeat (first | apply bn | apply bd | apply ba)); refine blk_put (cs := #[.int .i64 1, .int .i64 0, .int .i64 0, .int .i64 0, .int .i64 0, .int .i64 0, .int .i64 0, .int .i64 0]) ?_ 1 _ rfl; (with_reducible repeat (first | apply bn | apply bd | apply ba)); refine blk_put (cs := #[.int .i64 0, .int .i64 0, .int .i64 0, .int .i64 0, .int .i64 0, .int .i64 0, .int .i64 0, .int .i64 0]) ?_ 0 _ rfl; (repeat (first | (with_reducible first | apply bn | apply bd | apply ba) | apply bf NB832_831)); exact BK832.out) Try.underlying41 rfl (by kernel_rfl) (.tmp .nil)))) rfl ?_
    exact ⟨_, by first | rfl | (simp [errW_none, errW_some] <;> rfl) | (simp [*, errW_none, errW_some] <;> rfl), by (with_reducible repeat (first | apply Kd.Q_alloc | apply Kd.Q_drewN | apply Kd.Q_drew)); exact Kd.Q_mono (Kd.Q_far (p := ⟨gb832, 7, none⟩) (Kd.Q_far (p := ⟨gb832, 6, none⟩) (Kd.Q_far (p := ⟨gb832, 5, none⟩) (Kd.Q_far (p := ⟨gb832, 4, none⟩) (Kd.Q_far (p := ⟨gb832, 3, none⟩) (Kd.Q_far (p := ⟨gb832, 2, none⟩) (Kd.Q_far (p := ⟨gb832, 1, none⟩) (Kd.Q_far (p := ⟨gb832, 0, none⟩) (Kd.Q_far (p := ⟨gb831, 2, none⟩) (Kd.Q_far (p := ⟨gb831, 1, none⟩) (Kd.Q_far (p := ⟨gb831, 0, none⟩) (Kd.Q_types (Kd.Q_types HO840.out BK831.out (by decide)) BK832.out (by decide)) (fun _ hk => hk.1.2) (.int .i64 t836)) (fun _ hk => hk.1.2) (.int .i64 t837)) (fun _ hk => hk.1.2) (.slice Ao22 t838.length co22)) (fun _ hk => hk.2) (.int .i64 1)) (fun _ hk => hk.2) (.int .i64 1)) (fun _ hk => hk.2) (.int .i64 t855)) (fun _ hk => hk.2) (.int .i64 t857)) (fun _ hk => hk.2) (.int .i64 t859)) (fun _ hk => hk.2) (.int .i64 t861)) (fun _ hk => hk.2) (.int .i64 0)) (fun _ hk => hk.2) (.int .i64 0)) (fun _ hk => trivial), by repeat (first | (with_reducible first | exact HB.out | apply wa | apply wn | apply wd | refine below_set ?_ (IsS96.ge HI835.out) | refine ws ‹_› ?_) | exact HB.out)⟩
  · rw [if_neg c6] at H
    have c6b0 : (t853 == 0) = false := beq_eq_false_iff_ne.mpr c6
    have c6b1 : (t853 != 0) = true := bne_iff_ne.mpr c6
    replace H := Option.bind_eq_some_iff.mp H
    obtain ⟨⟨t867, t868⟩, A510, H⟩ := H
    replace H : ((spec_l6Rd_pick.f k t833 t868 24).bind fun bt869 => (some (t836, t837, t838, t843, t844, t845, t846, t847, t848, t849, t850, wrap64 ((wrap64 ((wrap64 (t836 + 1)) + t867)) - (wrap64 ((wrap64 (Int.tdiv bt869.1 23)) * 8)))))) = some (r1, r2, r3, r4, r5, r6, r7, r8, r9, r10, r11, r12) := H
    have A51 := az A510
    clear A510
    replace H := Option.bind_eq_some_iff.mp H
    obtain ⟨⟨t869, t870⟩, A520, H⟩ := H
    replace H : (some (t836, t837, t838, t843, t844, t845, t846, t847, t848, t849, t850, wrap64 ((wrap64 ((wrap64 (t836 + 1)) + t867)) - (wrap64 ((wrap64 (Int.tdiv t869 23)) * 8))))) = some (r1, r2, r3, r4, r5, r6, r7, r8, r9, r10, r11, r12) := H
    have A52 := az A520
    clear A520
    simp only [Option.some.injEq, Prod.mk.injEq] at H
    obtain ⟨rfl, rfl, rfl, rfl, rfl, rfl, rfl, rfl, rfl, rfl, rfl, rfl⟩ := H
    go_enter Try.func56, Try.ntmps56
    try go_wp2_with (first | ((with_reducible refine gate_dst (N := 2) rfl ?_); refine box_event ?hg (N := 2) ?hd (cs := #[.int .i64 0, .int .i64 0, .slice none 0 0]) (t := 25) ?hr ?_; (case hd => rfl); (case hg => rfl); (case hr => first | (go_simp; done) | (go_simp; rfl)); intro gb831 hg w53 hbox hb; have BK831 := az (hbox); have GW831 := az ((by rw [hg]; exact (below_size (by repeat (first | (with_reducible first | exact HB.out | apply wa | apply wn | apply wd) | exact HB.out))) : w.heap.size ≤ gb831)); have GE831 := GW831; replace HB := az (below_step (by repeat (first | (with_reducible first | exact HB.out | apply wa | apply wn | apply wd) | exact HB.out)) hb); clear hb hbox hg) | ((with_reducible refine gate_dst (N := 3) rfl ?_); refine box_event ?hg (N := 3) ?hd (cs := #[.int .i64 0, .int .i64 0, .int .i64 0, .int .i64 0, .int .i64 0, .int .i64 0, .int .i64 0, .int .i64 0]) (t := 41) ?hr ?_; (case hd => rfl); (case hg => rfl); (case hr => first | (go_simp; done) | (go_simp; rfl)); intro gb832 hg w54 hbox hb; have BK832 := az (hbox); have GW832 := az ((by rw [hg]; exact (below_size (by repeat (first | (with_reducible first | exact HB.out | apply wa | apply wn | apply wd | refine ws ‹_› ?_) | exact HB.out))) : w.heap.size ≤ gb832)); have GE832 := GW832; replace HB := az (below_step (by repeat (first | (with_reducible first | exact HB.out | apply wa | apply wn | apply wd | refine ws ‹_› ?_) | exact HB.out)) hb); obtain ⟨NB831_832, NB832_831⟩ := nb BK831 hg (fun h => by (with_reducible repeat (first | apply bn | apply bd | apply ba)); exact h); replace BK831 := bb BK831 (fun h => by (with_reducible repeat (first | apply bn | apply bd | apply ba)); exact h) hb; clear hb hbox hg) | ((with_reducible refine gate_callee (f := 75) rfl ?_); refine goesL_ (some 9) rfl rfl Try.func75 (by kernel_rfl) rfl #[.slice A0 l0.length c0] rfl (by (try simp only [List.map_toArray, List.map_cons, List.map_nil]); first | done | rfl | (simp only [List.length_drop, List.length_take]; rfl)) ?_; (with_reducible refine (spec_l6Open.calls _ _ l0 t833 t834 w _ ?side1 ?side2 ?side3 A2.out).mono ?_); (case side1 => repeat (first | (with_reducible first | exact HB.out | apply wa | apply wn | apply wd | refine ws ‹_› ?_) | exact HB.out)); (case side2 => exact HR0.out); (case side3 => exact HC0.out); rintro e w55 ⟨g835, rfl, hi, hb, hb2⟩; refine ⟨_, rfl, ?_⟩; replace HB := az (hb); have HI835 := az (hi); have NB835_831 := az (IsS96.ne_blk hi (blk_below (g := gb831) (o := .cells #[.int .i64 0, .int .i64 0, .slice none 0 0] 25 (0, 0)) (by (with_reducible repeat (first | apply bn | apply bd | apply ba)); exact BK831.out) hb2) (by decide)); have NB831_835 := az (Ne.symm (IsS96.ne_blk hi (blk_below (g := gb831) (o := .cells #[.int .i64 0, .int .i64 0, .slice none 0 0] 25 (0, 0)) (by (with_reducible repeat (first | apply bn | apply bd | apply ba)); exact BK831.out) hb2) (by decide))); replace BK831 := bb BK831 (fun h => by (with_reducible repeat (first | apply bn | apply bd | apply ba)); exact h) hb2; have NB835_832 := az (IsS96.ne_blk hi (blk_below (g := gb832) (o := .cells #[.int .i64 0, .int .i64 0, .int .i64 0, .int .i64 0, .int .i64 0, .int .i64 0, .int .i64 0, .int .i64 0] 41 (0, 0)) (by (with_reducible repeat (first | apply bn | apply bd | apply ba)); exact BK832.out) hb2) (by decide)); have NB832_835 := az (Ne.symm (IsS96.ne_blk hi (blk_below (g := gb832) (o := .cells #[.int .i64 0, .int .i64 0, .int .i64 0, .int .i64 0, .int .i64 0, .int .i64 0, .int .i64 0, .int .i64 0] 41 (0, 0)) (by (with_reducible repeat (first | apply bn | apply bd | apply ba)); exact BK832.out) hb2) (by decide))); replace BK832 := bb BK832 (fun h => by (with_reducible repeat (first | apply bn | apply bd | apply ba)); exact h) hb2; (try clear hb); (try clear hb2); (try clear hk); (try clear hi)) | ((with_reducible refine gate_callee (f := 76) rfl ?_); refine goesL_ (some 11) rfl rfl Try.func76 (by kernel_rfl) rfl #[.pointer (some ⟨g835, 0, none⟩)] rfl (by (try simp only [List.map_toArray, List.map_cons, List.map_nil]); first | done | rfl | (simp only [List.length_drop, List.length_take]; rfl)) ?_; (with_reducible refine (spec_l71Page.calls k g835 t833 t834 t836 t837 t838 t841 w _ ?side1 ?side2 A3.out).mono ?_); (case side1 => repeat (first | (with_reducible first | exact HI835.out | apply IsS96.alloc | apply IsS96.drewN | apply IsS96.drew | apply IsS96.set_1 | refine IsS96.far ?_ NB835_831.out _ | refine IsS96.far ?_ NB835_832.out _) | exact HI835.out)); (case side2 => repeat (first | (with_reducible first | exact HB.out | apply wa | apply wn | apply wd | refine below_set ?_ (IsS96.ge HI835.out) | refine ws ‹_› ?_) | exact HB.out)); rintro e w56 ⟨v839, rfl, ho0, hi, hb, hk⟩; refine ⟨_, rfl, ?_⟩; replace BK831 := az (KeepBut.blk hk (g' := gb831) (o := .cells #[.int .i64 0, .int .i64 0, .slice none 0 0] 25 (0, 0)) (by (with_reducible repeat (first | apply bn | apply bd | apply ba)); exact BK831.out) NB831_835.out (by simp)); replace BK832 := az (KeepBut.blk hk (g' := gb832) (o := .cells #[.int .i64 0, .int .i64 0, .int .i64 0, .int .i64 0, .int .i64 0, .int .i64 0, .int .i64 0, .int .i64 0] 41 (0, 0)) (by (with_reducible repeat (first | apply bn | apply bd | apply ba)); exact BK832.out) NB832_835.out (by simp)); have HO840 := az (Kd.Q_lower ho0 (below_size (by repeat (first | (with_reducible first | exact HB.out | apply wa | apply wn | apply wd | refine below_set ?_ (IsS96.ge HI835.out) | refine ws ‹_› ?_) | exact HB.out)))); replace HB := az (hb); replace HI835 := az (hi); (try clear hb); (try clear hb2); (try clear hk); (try clear hi); (try clear ho0)) | ((with_reducible refine gate_dst (N := 6) rfl ?_); refine box_event ?hg (N := 6) ?hd (cs := #[.int .i64 0, .int .i64 0, .slice none 0 0]) (t := 25) ?hr ?_; (case hd => rfl); (case hg => rfl); (case hr => first | (go_simp; done) | (go_simp; rfl)); intro gb842 hg w57 hbox hb; replace HO840 := az (Kd.Q_below (by (with_reducible repeat (first | apply Kd.Q_alloc | apply Kd.Q_drewN | apply Kd.Q_drew)); exact HO840.out) hb); have BK842 := az (hbox); have GW842 := az ((by rw [hg]; exact (below_size (by repeat (first | (with_reducible first | exact HB.out | apply wa | apply wn | apply wd | refine below_set ?_ (IsS96.ge HI835.out) | refine ws ‹_› ?_) | exact HB.out))) : w.heap.size ≤ gb842)); have GE842 := GW842; replace HB := az (below_step (by repeat (first | (with_reducible first | exact HB.out | apply wa | apply wn | apply wd | refine below_set ?_ (IsS96.ge HI835.out) | refine ws ‹_› ?_) | exact HB.out)) hb); obtain ⟨NB831_842, NB842_831⟩ := nb BK831 hg (fun h => by (with_reducible repeat (first | apply bn | apply bd | apply ba)); exact h); replace BK831 := bb BK831 (fun h => by (with_reducible repeat (first | apply bn | apply bd | apply ba)); exact h) hb; obtain ⟨NB832_842, NB842_832⟩ := nb BK832 hg (fun h => by (with_reducible repeat (first | apply bn | apply bd | apply ba)); exact h); replace BK832 := bb BK832 (fun h => by (with_reducible repeat (first | apply bn | apply bd | apply ba)); exact h) hb; have NB835_842 := az ((by rw [hg]; exact Nat.ne_of_lt (IsS96.lt (show IsS96 w _ g835 t833 t841 from by repeat (first | (with_reducible first | exact HI835.out | apply IsS96.alloc | apply IsS96.drewN | apply IsS96.drew | apply IsS96.set_1 | refine IsS96.far ?_ NB835_831.out _ | refine IsS96.far ?_ NB835_832.out _) | exact HI835.out))) : g835 ≠ gb842)); have NB842_835 := az ((by rw [hg]; exact Nat.ne_of_gt (IsS96.lt (show IsS96 w _ g835 t833 t841 from by repeat (first | (with_reducible first | exact HI835.out | apply IsS96.alloc | apply IsS96.drewN | apply IsS96.drew | apply IsS96.set_1 | refine IsS96.far ?_ NB835_831.out _ | refine IsS96.far ?_ NB835_832.out _) | exact HI835.out))) : gb842 ≠ g835)); replace HI835 := az (IsS96.below (by repeat (first | (with_reducible first | exact HI835.out | apply IsS96.alloc | apply IsS96.drewN | apply IsS96.drew | apply IsS96.set_1 | refine IsS96.far ?_ NB835_831.out _ | refine IsS96.far ?_ NB835_832.out _) | exact HI835.out)) hb); clear hb hbox hg; have hnb58 := NB842_831.out; have hnc58 := NB831_842.out; have hnb59 := NB842_832.out; have hnc59 := NB832_842.out; have hnb60 := NB842_835.out; have hnc60 := NB835_842.out; obtain ⟨hcz61_0, hcz61_1, hcz61_2⟩ := cz3 BK842; obtain ⟨hfz61_0, hfz61_1, hfz61_2⟩ := fz3 BK842; obtain ⟨Ao62, co62, eo62, _⟩ := Kd.Q_slice HO840.out; subst eo62) | ((with_reducible refine gate_callee (f := 88) rfl ?_); refine goesL_ (some 13) rfl rfl Try.func88 (by kernel_rfl) rfl #[.pointer (some ⟨g835, 0, none⟩)] rfl (by (try simp only [List.map_toArray, List.map_cons, List.map_nil]); first | done | rfl | (simp only [List.length_drop, List.length_take]; rfl)) ?_; (with_reducible refine (spec_l71Rec.calls k g835 t833 t841 t843 t844 t845 t846 t847 t848 t849 t850 t851 w _ ?side1 ?side2 A4.out).mono ?_); (case side1 => repeat (first | (with_reducible first | exact HI835.out | apply IsS96.alloc | apply IsS96.drewN | apply IsS96.drew | apply IsS96.set_1 | refine IsS96.far ?_ NB835_831.out _ | refine IsS96.far ?_ NB835_832.out _ | refine IsS96.far ?_ NB835_842.out _) | exact HI835.out)); (case side2 => repeat (first | (with_reducible first | exact HB.out | apply wa | apply wn | apply wd | refine below_set ?_ (IsS96.ge HI835.out) | refine ws ‹_› ?_) | exact HB.out)); rintro e w63 ⟨rfl, hi, hb, hk⟩; refine ⟨_, rfl, ?_⟩; replace BK831 := az (KeepBut.blk hk (g' := gb831) (o := .cells #[.int .i64 0, .int .i64 0, .slice none 0 0] 25 (0, 0)) (by (repeat (first | (with_reducible first | apply bn | apply bd | apply ba) | apply bf NB831_842)); exact BK831.out) NB831_835.out (by simp)); replace BK832 := az (KeepBut.blk hk (g' := gb832) (o := .cells #[.int .i64 0, .int .i64 0, .int .i64 0, .int .i64 0, .int .i64 0, .int .i64 0, .int .i64 0, .int .i64 0] 41 (0, 0)) (by (repeat (first | (with_reducible first | apply bn | apply bd | apply ba) | apply bf NB832_842)); exact BK832.out) NB832_835.out (by simp)); replace HO840 := az (Kd.Q_mono (Kd.Q_keep (IsS96.apartQ (show IsS96 w _ g835 t833 t841 from by repeat (first | (with_reducible first | exact HI835.out | apply IsS96.alloc | apply IsS96.drewN | apply IsS96.drew | apply IsS96.set_1 | refine IsS96.far ?_ NB835_831.out _ | refine IsS96.far ?_ NB835_832.out _ | refine IsS96.far ?_ NB835_842.out _) | exact HI835.out)) (by (with_reducible repeat (first | apply Kd.Q_alloc | apply Kd.Q_drewN | apply Kd.Q_drew)); exact (fQ3 HO840.out BK842.out (by decide))) (by decide)) hk (fun _ h => h.2)) (fun _ h => h.1)); replace BK842 := az (KeepBut.blk hk (g' := gb842) (o := .cells #[.int .i64 t836, .int .i64 t837, .slice Ao62 t838.length co62] 25 (0, 0)) (by (with_reducible repeat (first | apply bn | apply bd | apply ba)); exact p3 BK842) NB842_835.out (by simp)); replace HB := az (hb); replace HI835 := az (hi); (try clear hb); (try clear hb2); (try clear hk); (try clear hi)) | ((with_reducible refine gate_dst (N := 7) rfl ?_); refine box_event ?hg (N := 7) ?hd (cs := #[.int .i64 0, .int .i64 0, .int .i64 0, .int .i64 0, .int .i64 0, .int .i64 0, .int .i64 0, .int .i64 0]) (t := 41) ?hr ?_; (case hd => rfl); (case hg => rfl); (case hr => first | (go_simp; done) | (go_simp; rfl)); intro gb852 hg w64 hbox hb; replace HO840 := az (Kd.Q_below (by (with_reducible repeat (first | apply Kd.Q_alloc | apply Kd.Q_drewN | apply Kd.Q_drew)); exact HO840.out) hb); have BK852 := az (hbox); have GW852 := az ((by rw [hg]; exact (below_size (by repeat (first | (with_reducible first | exact HB.out | apply wa | apply wn | apply wd | refine below_set ?_ (IsS96.ge HI835.out) | refine ws ‹_› ?_) | exact HB.out))) : w.heap.size ≤ gb852)); have GE852 := GW852; replace HB := az (below_step (by repeat (first | (with_reducible first | exact HB.out | apply wa | apply wn | apply wd | refine below_set ?_ (IsS96.ge HI835.out) | refine ws ‹_› ?_) | exact HB.out)) hb); obtain ⟨NB831_852, NB852_831⟩ := nb BK831 hg (fun h => by (with_reducible repeat (first | apply bn | apply bd | apply ba)); exact h); replace BK831 := bb BK831 (fun h => by (with_reducible repeat (first | apply bn | apply bd | apply ba)); exact h) hb; obtain ⟨NB832_852, NB852_832⟩ := nb BK832 hg (fun h => by (with_reducible repeat (first | apply bn | apply bd | apply ba)); exact h); replace BK832 := bb BK832 (fun h => by (with_reducible repeat (first | apply bn | apply bd | apply ba)); exact h) hb; obtain ⟨NB842_852, NB852_842⟩ := nb BK842 hg (fun h => by (with_reducible repeat (first | apply bn | apply bd | apply ba)); exact h); replace BK842 := bb BK842 (fun h => by (with_reducible repeat (first | apply bn | apply bd | apply ba)); exact h) hb; have NB835_852 := az ((by rw [hg]; exact Nat.ne_of_lt (IsS96.lt (show IsS96 w _ g835 t833 t851 from by repeat (first | (with_reducible first | exact HI835.out | apply IsS96.alloc | apply IsS96.drewN | apply IsS96.drew | apply IsS96.set_1 | refine IsS96.far ?_ NB835_831.out _ | refine IsS96.far ?_ NB835_832.out _ | refine IsS96.far ?_ NB835_842.out _) | exact HI835.out))) : g835 ≠ gb852)); have NB852_835 := az ((by rw [hg]; exact Nat.ne_of_gt (IsS96.lt (show IsS96 w _ g835 t833 t851 from by repeat (first | (with_reducible first | exact HI835.out | apply IsS96.alloc | apply IsS96.drewN | apply IsS96.drew | apply IsS96.set_1 | refine IsS96.far ?_ NB835_831.out _ | refine IsS96.far ?_ NB835_832.out _ | refine IsS96.far ?_ NB835_842.out _) | exact HI835.out))) : gb852 ≠ g835)); replace HI835 := az (IsS96.below (by repeat (first | (with_reducible first | exact HI835.out | apply IsS96.alloc | apply IsS96.drewN | apply IsS96.drew | apply IsS96.set_1 | refine IsS96.far ?_ NB835_831.out _ | refine IsS96.far ?_ NB835_832.out _ | refine IsS96.far ?_ NB835_842.out _) | exact HI835.out)) hb); clear hb hbox hg; have hnb65 := NB852_831.out; have hnc65 := NB831_852.out; have hnb66 := NB852_832.out; have hnc66 := NB832_852.out; have hnb67 := NB852_842.out; have hnc67 := NB842_852.out; have hnb68 := NB852_835.out; have hnc68 := NB835_852.out; obtain ⟨hcz69_0, hcz69_1, hcz69_2, hcz69_3, hcz69_4, hcz69_5, hcz69_6, hcz69_7⟩ := cz8 BK852; obtain ⟨hfz69_0, hfz69_1, hfz69_2, hfz69_3, hfz69_4, hfz69_5, hfz69_6⟩ := fz7 BK852; have hfz69_7 := blk_frozen BK852.out 7) | ((with_reducible refine gate_callee (f := 77) rfl ?_); refine goesL_ (some 15) rfl rfl Try.func77 (by kernel_rfl) rfl #[.pointer (some ⟨g835, 0, none⟩), .int .i64 2] rfl (by (try simp only [List.map_toArray, List.map_cons, List.map_nil]); first | done | rfl | (simp only [List.length_drop, List.length_take]; rfl)) ?_; (with_reducible refine (spec_l6Rd_pick.calls k g835 t833 t851 2 t853 t854 w _ ?side1 ?side2 A5.out).mono ?_); (case side1 => repeat (first | (with_reducible first | exact HI835.out | apply IsS96.alloc | apply IsS96.drewN | apply IsS96.drew | apply IsS96.set_1 | refine IsS96.far ?_ NB835_831.out _ | refine IsS96.far ?_ NB835_832.out _ | refine IsS96.far ?_ NB835_842.out _ | refine IsS96.far ?_ NB835_852.out _) | exact HI835.out)); (case side2 => repeat (first | (with_reducible first | exact HB.out | apply wa | apply wn | apply wd | refine below_set ?_ (IsS96.ge HI835.out) | refine ws ‹_› ?_) | exact HB.out)); rintro e w70 ⟨rfl, hi, hb, hk⟩; refine ⟨_, rfl, ?_⟩; replace BK831 := az (KeepBut.blk hk (g' := gb831) (o := .cells #[.int .i64 0, .int .i64 0, .slice none 0 0] 25 (0, 0)) (by (repeat (first | (with_reducible first | apply bn | apply bd | apply ba) | apply bf NB831_852)); exact BK831.out) NB831_835.out (by simp)); replace BK832 := az (KeepBut.blk hk (g' := gb832) (o := .cells #[.int .i64 0, .int .i64 0, .int .i64 0, .int .i64 0, .int .i64 0, .int .i64 0, .int .i64 0, .int .i64 0] 41 (0, 0)) (by (repeat (first | (with_reducible first | apply bn | apply bd | apply ba) | apply bf NB832_852)); exact BK832.out) NB832_835.out (by simp)); replace HO840 := az (Kd.Q_mono (Kd.Q_keep (IsS96.apartQ (show IsS96 w _ g835 t833 t851 from by repeat (first | (with_reducible first | exact HI835.out | apply IsS96.alloc | apply IsS96.drewN | apply IsS96.drew | apply IsS96.set_1 | refine IsS96.far ?_ NB835_831.out _ | refine IsS96.far ?_ NB835_832.out _ | refine IsS96.far ?_ NB835_842.out _ | refine IsS96.far ?_ NB835_852.out _) | exact HI835.out)) (by (with_reducible repeat (first | apply Kd.Q_alloc | apply Kd.Q_drewN | apply Kd.Q_drew)); exact (fQ8 HO840.out BK852.out (by decide))) (by decide)) hk (fun _ h => h.2)) (fun _ h => h.1)); replace BK842 := az (KeepBut.blk hk (g' := gb842) (o := .cells #[.int .i64 t836, .int .i64 t837, .slice Ao62 t838.length co62] 25 (0, 0)) (by (repeat (first | (with_reducible first | apply bn | apply bd | apply ba) | apply bf NB842_852)); exact BK842.out) NB842_835.out (by simp)); replace BK852 := az (KeepBut.blk hk (g' := gb852) (o := .cells #[.int .i64 t843, .int .i64 t844, .int .i64 t845, .int .i64 t846, .int .i64 t847, .int .i64 t848, .int .i64 t849, .int .i64 t850] 41 (0, 0)) (by (with_reducible repeat (first | apply bn | apply bd | apply ba)); exact p8 BK852) NB852_835.out (by simp)); replace HB := az (hb); replace HI835 := az (hi); (try clear hb); (try clear hb2); (try clear hk); (try clear hi)))
    replace HO840 := az (Kd.Q_drew HO840.out)
    replace BK831 := az (blk_drew BK831.out)
    replace BK832 := az (blk_drew BK832.out)
    replace BK842 := az (blk_drew BK842.out)
    replace BK852 := az (blk_drew BK852.out)
    replace HI835 := az (IsS96.drew HI835.out)
    replace HB := az (wd HB.out)
    refine start_ (n := 16) (S := fun w' => w'.cell? ⟨gb842, 0, none⟩ = some (.int .i64 t836) ∧ w'.cell? ⟨gb842, 1, none⟩ = some (.int .i64 t837) ∧ w'.cell? ⟨gb842, 2, none⟩ = some (.slice Ao62 t838.length co62) ∧ w'.cell? ⟨gb852, 0, none⟩ = some (.int .i64 t843) ∧ w'.cell? ⟨gb852, 1, none⟩ = some (.int .i64 t844) ∧ w'.cell? ⟨gb852, 2, none⟩ = some (.int .i64 t845) ∧ w'.cell? ⟨gb852, 3, none⟩ = some (.int .i64 t846) ∧ w'.cell? ⟨gb852, 4, none⟩ = some (.int .i64 t847) ∧ w'.cell? ⟨gb852, 5, none⟩ = some (.int .i64 t848) ∧ w'.cell? ⟨gb852, 6, none⟩ = some (.int .i64 t849) ∧ w'.cell? ⟨gb852, 7, none⟩ = some (.int .i64 t850)) (ds := []) #[false, false, false, false, false, false, false, false, false, false, false, false, false, false, false, false] (by kernel_rfl) rfl rfl ⟨bt BK842 rfl, bt BK842 rfl, bt BK842 rfl, bt BK852 rfl, bt BK852 rfl, bt BK852 rfl, bt BK852 rfl, bt BK852 rfl, bt BK852 rfl, bt BK852 rfl, bt BK852 rfl⟩ (fun hHeld => ?_); refine with_tabW spec_DrawRecDo.tab6 spec_DrawRecDo.bits6 (fun HT_ HW_ => ?_)
    generalize w70.drew = w71 at HO840 BK831 BK832 BK842 BK852 HI835 HB hHeld ⊢
    refine pure_ (i := 2) (N := some 28) (v := ?_) (a' := ?_) #[false, false, true, false, false, false, false, false, false, false, false, false, false, false, false, false] rfl rfl (any_of HT_.out (by kernel_rfl)) (fun _ _ _ h => h) (Or.inl ⟨by rfl, ?_⟩) ?_ ?_
    rotate_left
    · intro w'
      go_simp
      with_reducible rfl
    rotate_left
    · simp only [Act.put, List.setIfInBounds_toArray, List.set_cons_zero, List.set_cons_succ, i64_w, i32_w]
      rfl
    refine pure_ (i := 5) (N := some 31) (v := ?_) (a' := ?_) #[false, false, true, false, false, true, false, false, false, false, false, false, false, false, false, false] rfl rfl (any_of HT_.out (by kernel_rfl)) (fun _ _ _ h => h) (Or.inl ⟨by rfl, ?_⟩) ?_ ?_
    rotate_left
    · intro w'
      go_simp
      with_reducible rfl
    rotate_left
    · simp only [Act.put, List.setIfInBounds_toArray, List.set_cons_zero, List.set_cons_succ, i64_w, i32_w]
      rfl
    refine pure_ (i := 8) (N := some 34) (v := ?_) (a' := ?_) #[false, false, true, false, false, true, false, false, true, false, false, false, false, false, false, false] rfl rfl (any_of HT_.out (by kernel_rfl)) (fun _ _ _ h => h) (Or.inl ⟨by rfl, ?_⟩) ?_ ?_
    rotate_left
    · intro w'
      go_simp
      with_reducible rfl
    rotate_left
    · simp only [Act.put, List.setIfInBounds_toArray, List.set_cons_zero, List.set_cons_succ, i64_w, i32_w]
      rfl
    refine take_ (i := 0) (N := some 26) (v := ?_) (a' := ?_) #[true, false, true, false, false, true, false, false, true, false, false, false, false, false, false, false] rfl rfl (take_ofW HT_.out HW_.out (by kernel_rfl)) (fun _ _ _ h => h) (Or.inl ⟨by rfl, ?_⟩) hHeld ?_ ?_
    rotate_left
    · rintro w' ⟨s0, s1, s2, s3, s4, s5, s6, s7, s8, s9, s10⟩
      go_simp
      with_reducible rfl
    rotate_left
    · simp only [Act.put, List.setIfInBounds_toArray, List.set_cons_zero, List.set_cons_succ, i64_w, i32_w]
      rfl
    refine take_ (i := 1) (N := some 27) (v := ?_) (a' := ?_) #[true, true, true, false, false, true, false, false, true, false, false, false, false, false, false, false] rfl rfl (take_ofW HT_.out HW_.out (by kernel_rfl)) (fun _ _ _ h => h) (Or.inl ⟨by rfl, ?_⟩) hHeld ?_ ?_
    rotate_left
    · rintro w' ⟨s0, s1, s2, s3, s4, s5, s6, s7, s8, s9, s10⟩
      go_simp
      with_reducible rfl
    rotate_left
    · simp only [Act.put, List.setIfInBounds_toArray, List.set_cons_zero, List.set_cons_succ, i64_w, i32_w]
      rfl
    refine take_ (i := 3) (N := some 29) (v := ?_) (a' := ?_) #[true, true, true, true, false, true, false, false, true, false, false, false, false, false, false, false] rfl rfl (take_ofW HT_.out HW_.out (by kernel_rfl)) (fun _ _ _ h => h) (Or.inl ⟨by rfl, ?_⟩) hHeld ?_ ?_
    rotate_left
    · rintro w' ⟨s0, s1, s2, s3, s4, s5, s6, s7, s8, s9, s10⟩
      go_simp
      with_reducible rfl
    rotate_left
    · simp only [Act.put, List.setIfInBounds_toArray, List.set_cons_zero, List.set_cons_succ, i64_w, i32_w]
      rfl
    refine pure_ (i := 4) (N := some 30) (v := ?_) (a' := ?_) #[true, true, true, true, true, true, false, false, true, false, false, false, false, false, false, false] rfl rfl (any_of HT_.out (by kernel_rfl)) (fun _ _ _ h => h) (Or.inl ⟨by rfl, ?_⟩) ?_ ?_
    rotate_left
    · intro w'
      go_simp
      with_reducible rfl
    rotate_left
    · simp only [Act.put, List.setIfInBounds_toArray, List.set_cons_zero, List.set_cons_succ, i64_w, i32_w]
      rfl
    refine one_ (i := 6) (N := some 32) #[true, true, true, true, true, true, true, false, true, false, false, false, false, false, false, false] rfl rfl (one_of HT_.out (by kernel_rfl)) (by decide) (fun K hK => ?_)
    refine goes_ Try.func77 (by kernel_rfl) rfl #[.pointer (some ⟨g835, 0, none⟩), .int .i64 6] (by rfl) rfl rfl (by (try simp only [List.map_toArray, List.map_cons, List.map_nil]); first | done | rfl | (simp only [List.length_drop, List.length_take]; rfl)) ?_
    with_reducible refine (spec_l6Rd_pick.calls k g835 t833 t854 6 t867 t868 w _ ?side1 ?side2 A51.out).mono ?_
    (case side1 => repeat (first | (with_reducible first | exact HI835.out | apply IsS96.alloc | apply IsS96.drewN | apply IsS96.drew | apply IsS96.set_1 | refine IsS96.far ?_ NB835_831.out _ | refine IsS96.far ?_ NB835_832.out _ | refine IsS96.far ?_ NB835_842.out _ | refine IsS96.far ?_ NB835_852.out _) | exact HI835.out))
    (case side2 => repeat (first | (with_reducible first | exact HB.out | apply wa | apply wn | apply wd | refine below_set ?_ (IsS96.ge HI835.out) | refine ws ‹_› ?_) | exact HB.out))
    rintro e w72 ⟨rfl, hi, hb, hk⟩
    refine ⟨_, rfl, ?_⟩
    replace BK831 := az (KeepBut.blk hk (g' := gb831) (o := .cells #[.int .i64 0, .int .i64 0, .slice none 0 0] 25 (0, 0)) (by (with_reducible repeat (first | apply bn | apply bd | apply ba)); exact BK831.out) NB831_835.out (by simp))
    replace BK832 := az (KeepBut.blk hk (g' := gb832) (o := .cells #[.int .i64 0, .int .i64 0, .int .i64 0, .int .i64 0, .int .i64 0, .int .i64 0, .int .i64 0, .int .i64 0] 41 (0, 0)) (by (with_reducible repeat (first | apply bn | apply bd | apply ba)); exact BK832.out) NB832_835.out (by simp))
    replace HO840 := az (Kd.Q_mono (Kd.Q_keep (IsS96.apartQ (show IsS96 w _ g835 t833 t854 from by repeat (first | (with_reducible first | exact HI835.out | apply IsS96.alloc | apply IsS96.drewN | apply IsS96.drew | apply IsS96.set_1 | refine IsS96.far ?_ NB835_831.out _ | refine IsS96.far ?_ NB835_832.out _ | refine IsS96.far ?_ NB835_842.out _ | refine IsS96.far ?_ NB835_852.out _) | exact HI835.out)) (by (with_reducible repeat (first | apply Kd.Q_alloc | apply Kd.Q_drewN | apply Kd.Q_drew)); exact HO840.out) (by decide)) hk (fun _ h => h.2)) (fun _ h => h.1))
    replace BK842 := az (KeepBut.blk hk (g' := gb842) (o := .cells #[.int .i64 t836, .int .i64 t837, .slice Ao62 t838.length co62] 25 (0, 0)) (by (with_reducible repeat (first | apply bn | apply bd | apply ba)); exact BK842.out) NB842_835.out (by simp))
    replace BK852 := az (KeepBut.blk hk (g' := gb852) (o := .cells #[.int .i64 t843, .int .i64 t844, .int .i64 t845, .int .i64 t846, .int .i64 t847, .int .i64 t848, .int .i64 t849, .int .i64 t850] 41 (0, 0)) (by (with_reducible repeat (first | apply bn | apply bd | apply ba)); exact BK852.out) NB852_835.out (by simp))
    replace HB := az (hb)
    replace HI835 := az (hi)
    (try clear hb)
    (try clear hb2)
    (try clear hk)
    (try clear hi)
    refine hK.out _ _ ⟨bt BK842 rfl, bt BK842 rfl, bt BK842 rfl, bt BK852 rfl, bt BK852 rfl, bt BK852 rfl, bt BK852 rfl, bt BK852 rfl, bt BK852 rfl, bt BK852 rfl, bt BK852 rfl⟩ (fun hHeld => ?_)
    clear hK K
    refine norm_ (a' := ?_) ?_ ?_
    rotate_left
    · show Act.put _ (some 32) _ = _
      simp only [Act.put, List.setIfInBounds_toArray, List.set_cons_zero, List.set_cons_succ, i64_w, i32_w]
      rfl
    refine pure_ (i := 7) (N := some 33) (v := ?_) (a' := ?_) #[true, true, true, true, true, true, true, true, true, false, false, false, false, false, false, false] rfl rfl (any_of HT_.out (by kernel_rfl)) (fun _ _ _ h => h) (Or.inl ⟨by rfl, ?_⟩) ?_ ?_
    rotate_left
    · intro w'
      go_simp
      with_reducible rfl
    rotate_left
    · simp only [Act.put, List.setIfInBounds_toArray, List.set_cons_zero, List.set_cons_succ, i64_w, i32_w]
      rfl
    refine one_ (i := 9) (N := some 35) #[true, true, true, true, true, true, true, true, true, true, false, false, false, false, false, false] rfl rfl (one_of HT_.out (by kernel_rfl)) (by decide) (fun K hK => ?_)
    refine goes_ Try.func77 (by kernel_rfl) rfl #[.pointer (some ⟨g835, 0, none⟩), .int .i64 24] (by rfl) rfl rfl (by (try simp only [List.map_toArray, List.map_cons, List.map_nil]); first | done | rfl | (simp only [List.length_drop, List.length_take]; rfl)) ?_
    with_reducible refine (spec_l6Rd_pick.calls k g835 t833 t868 24 t869 t870 w _ ?side1 ?side2 A52.out).mono ?_
    (case side1 => repeat (first | (with_reducible first | exact HI835.out | apply IsS96.alloc | apply IsS96.drewN | apply IsS96.drew | apply IsS96.set_1 | refine IsS96.far ?_ NB835_831.out _ | refine IsS96.far ?_ NB835_832.out _ | refine IsS96.far ?_ NB835_842.out _ | refine IsS96.far ?_ NB835_852.out _) | exact HI835.out))
    (case side2 => repeat (first | (with_reducible first | exact HB.out | apply wa | apply wn | apply wd | refine below_set ?_ (IsS96.ge HI835.out) | refine ws ‹_› ?_) | exact HB.out))
    rintro e w73 ⟨rfl, hi, hb, hk⟩
    refine ⟨_, rfl, ?_⟩
    replace BK831 := az (KeepBut.blk hk (g' := gb831) (o := .cells #[.int .i64 0, .int .i64 0, .slice none 0 0] 25 (0, 0)) (by (with_reducible repeat (first | apply bn | apply bd | apply ba)); exact BK831.out) NB831_835.out (by simp))
    replace BK832 := az (KeepBut.blk hk (g' := gb832) (o := .cells #[.int .i64 0, .int .i64 0, .int .i64 0, .int .i64 0, .int .i64 0, .int .i64 0, .int .i64 0, .int .i64 0] 41 (0, 0)) (by (with_reducible repeat (first | apply bn | apply bd | apply ba)); exact BK832.out) NB832_835.out (by simp))
    replace HO840 := az (Kd.Q_mono (Kd.Q_keep (IsS96.apartQ (show IsS96 w _ g835 t833 t868 from by repeat (first | (with_reducible first | exact HI835.out | apply IsS96.alloc | apply IsS96.drewN | apply IsS96.drew | apply IsS96.set_1 | refine IsS96.far ?_ NB835_831.out _ | refine IsS96.far ?_ NB835_832.out _ | refine IsS96.far ?_ NB835_842.out _ | refine IsS96.far ?_ NB835_852.out _) | exact HI835.out)) (by (with_reducible repeat (first | apply Kd.Q_alloc | apply Kd.Q_drewN | apply Kd.Q_drew)); exact HO840.out) (by decide)) hk (fun _ h => h.2)) (fun _ h => h.1))
    replace BK842 := az (KeepBut.blk hk (g' := gb842) (o := .cells #[.int .i64 t836, .int .i64 t837, .slice Ao62 t838.length co62] 25 (0, 0)) (by (with_reducible repeat (first | apply bn | apply bd | apply ba)); exact BK842.out) NB842_835.out (by simp))
    replace BK852 := az (KeepBut.blk hk (g' := gb852) (o := .cells #[.int .i64 t843, .int .i64 t844, .int .i64 t845, .int .i64 t846, .int .i64 t847, .int .i64 t848, .int .i64 t849, .int .i64 t850] 41 (0, 0)) (by (with_reducible repeat (first | apply bn | apply bd | apply ba)); exact BK852.out) NB852_835.out (by simp))
    replace HB := az (hb)
    replace HI835 := az (hi)
    (try clear hb)
    (try clear hb2)
    (try clear hk)
    (try clear hi)
    refine hK.out _ _ ⟨bt BK842 rfl, bt BK842 rfl, bt BK842 rfl, bt BK852 rfl, bt BK852 rfl, bt BK852 rfl, bt BK852 rfl, bt BK852 rfl, bt BK852 rfl, bt BK852 rfl, bt BK852 rfl⟩ (fun hHeld => ?_)
    clear hK K
    refine norm_ (a' := ?_) ?_ ?_
    rotate_left
    · show Act.put _ (some 35) _ = _
      simp only [Act.put, List.setIfInBounds_toArray, List.set_cons_zero, List.set_cons_succ, i64_w, i32_w]
      rfl
    refine pure_ (i := 10) (N := some 36) (v := ?_) (a' := ?_) #[true, true, true, true, true, true, true, true, true, true, true, false, false, false, false, false] rfl rfl (any_of HT_.out (by kernel_rfl)) (fun _ _ _ h => h) (Or.inl ⟨by rfl, ?_⟩) ?_ ?_
    rotate_left
    · intro w'
      go_simp
      with_reducible rfl
    rotate_left
    · simp only [Act.put, List.setIfInBounds_toArray, List.set_cons_zero, List.set_cons_succ, i64_w, i32_w]
      rfl
    refine pure_ (i := 11) (N := some 37) (v := ?_) (a' := ?_) #[true, true, true, true, true, true, true, true, true, true, true, true, false, false, false, false] rfl rfl (any_of HT_.out (by kernel_rfl)) (fun _ _ _ h => h) (Or.inl ⟨by rfl, ?_⟩) ?_ ?_
    rotate_left
    · intro w'
      go_simp
      with_reducible rfl
    rotate_left
    · simp only [Act.put, List.setIfInBounds_toArray, List.set_cons_zero, List.set_cons_succ, i64_w, i32_w]
      rfl
    refine pure_ (i := 12) (N := some 38) (v := ?_) (a' := ?_) #[true, true, true, true, true, true, true, true, true, true, true, true, true, false, false, false] rfl rfl (any_of HT_.out (by kernel_rfl)) (fun _ _ _ h => h) (Or.inl ⟨by rfl, ?_⟩) ?_ ?_
    rotate_left
    · intro w'
      go_simp
      with_reducible rfl
    rotate_left
    · simp only [Act.put, List.setIfInBounds_toArray, List.set_cons_zero, List.set_cons_succ, i64_w, i32_w]
      rfl
    refine one_ (i := 13) (N := none) #[true, true, true, true, true, true, true, true, true, true, true, true, true, true, false, false] rfl rfl (one_of HT_.out (by kernel_rfl)) (by decide) (fun K hK => ?_)
    have hs74 : w73.cell? ⟨gb831, 0, none⟩ = some (.int .i64 0) := bt BK831 rfl
    have hfs74 := blk_frozen BK831.out 0
    have hns74_1 := NB832_831.out
    have hns74_2 := NB842_831.out
    have hns74_3 := NB852_831.out
    have hms74_1 := NB831_832.out
    have hms74_2 := NB831_842.out
    have hms74_3 := NB831_852.out
    have hs75 : w73.cell? ⟨gb831, 1, none⟩ = some (.int .i64 0) := bt BK831 rfl
    have hfs75 := blk_frozen BK831.out 1
    have hns75_1 := NB832_831.out
    have hns75_2 := NB842_831.out
    have hns75_3 := NB852_831.out
    have hms75_1 := NB831_832.out
    have hms75_2 := NB831_842.out
    have hms75_3 := NB831_852.out
    have hs76 : w73.cell? ⟨gb831, 2, none⟩ = some (.slice none 0 0) := bt BK831 rfl
    have hfs76 := blk_frozen BK831.out 2
    have hns76_1 := NB832_831.out
    have hns76_2 := NB842_831.out
    have hns76_3 := NB852_831.out
    have hms76_1 := NB831_832.out
    have hms76_2 := NB831_842.out
    have hms76_3 := NB831_852.out
    refine skip_ (w1 := ?_) (by rfl) rfl ?_ ?_
    rotate_left
    · go_simp
      rfl
    refine hK.out _ _ ⟨((cell_far (p := ⟨gb831, _, none⟩) NB842_831.out _).trans (((cell_far (p := ⟨gb831, _, none⟩) NB842_831.out _).trans (((cell_far (p := ⟨gb831, _, none⟩) NB842_831.out _).trans (hHeld.1)))))), ((cell_far (p := ⟨gb831, _, none⟩) NB842_831.out _).trans (((cell_far (p := ⟨gb831, _, none⟩) NB842_831.out _).trans (((cell_far (p := ⟨gb831, _, none⟩) NB842_831.out _).trans (hHeld.2.1)))))), ((cell_far (p := ⟨gb831, _, none⟩) NB842_831.out _).trans (((cell_far (p := ⟨gb831, _, none⟩) NB842_831.out _).trans (((cell_far (p := ⟨gb831, _, none⟩) NB842_831.out _).trans (hHeld.2.2.1)))))), ((cell_far (p := ⟨gb831, _, none⟩) NB852_831.out _).trans (((cell_far (p := ⟨gb831, _, none⟩) NB852_831.out _).trans (((cell_far (p := ⟨gb831, _, none⟩) NB852_831.out _).trans (hHeld.2.2.2.1)))))), ((cell_far (p := ⟨gb831, _, none⟩) NB852_831.out _).trans (((cell_far (p := ⟨gb831, _, none⟩) NB852_831.out _).trans (((cell_far (p := ⟨gb831, _, none⟩) NB852_831.out _).trans (hHeld.2.2.2.2.1)))))), ((cell_far (p := ⟨gb831, _, none⟩) NB852_831.out _).trans (((cell_far (p := ⟨gb831, _, none⟩) NB852_831.out _).trans (((cell_far (p := ⟨gb831, _, none⟩) NB852_831.out _).trans (hHeld.2.2.2.2.2.1)))))), ((cell_far (p := ⟨gb831, _, none⟩) NB852_831.out _).trans (((cell_far (p := ⟨gb831, _, none⟩) NB852_831.out _).trans (((cell_far (p := ⟨gb831, _, none⟩) NB852_831.out _).trans (hHeld.2.2.2.2.2.2.1)))))), ((cell_far (p := ⟨gb831, _, none⟩) NB852_831.out _).trans (((cell_far (p := ⟨gb831, _, none⟩) NB852_831.out _).trans (((cell_far (p := ⟨gb831, _, none⟩) NB852_831.out _).trans (hHeld.2.2.2.2.2.2.2.1)))))), ((cell_far (p := ⟨gb831, _, none⟩) NB852_831.out _).trans (((cell_far (p := ⟨gb831, _, none⟩) NB852_831.out _).trans (((cell_far (p := ⟨gb831, _, none⟩) NB852_831.out _).trans (hHeld.2.2.2.2.2.2.2.2.1)))))), ((cell_far (p := ⟨gb831, _, none⟩) NB852_831.out _).trans (((cell_far (p := ⟨gb831, _, none⟩) NB852_831.out _).trans (((cell_far (p := ⟨gb831, _, none⟩) NB852_831.out _).trans (hHeld.2.2.2.2.2.2.2.2.2.1)))))), ((cell_far (p := ⟨gb831, _, none⟩) NB852_831.out _).trans (((cell_far (p := ⟨gb831, _, none⟩) NB852_831.out _).trans (((cell_far (p := ⟨gb831, _, none⟩) NB852_831.out _).trans (hHeld.2.2.2.2.2.2.2.2.2.2))))))⟩ (fun hHeld => ?_)
    clear hK K
    refine one_ (i := 14) (N := none) #[true, true, true, true, true, true, true, true, true, true, true, true, true, true, true, false] rfl rfl (one_of HT_.out (by kernel_rfl)) (by decide) (fun K hK => ?_)
    have hs77 : w73.cell? ⟨gb832, 0, none⟩ = some (.int .i64 0) := bt BK832 rfl
    have hfs77 := blk_frozen BK832.out 0
    have hns77_0 := NB831_832.out
    have hns77_2 := NB842_832.out
    have hns77_3 := NB852_832.out
    have hms77_0 := NB832_831.out
    have hms77_2 := NB832_842.out
    have hms77_3 := NB832_852.out
    have hs78 : w73.cell? ⟨gb832, 1, none⟩ = some (.int .i64 0) := bt BK832 rfl
    have hfs78 := blk_frozen BK832.out 1
    have hns78_0 := NB831_832.out
    have hns78_2 := NB842_832.out
    have hns78_3 := NB852_832.out
    have hms78_0 := NB832_831.out
    have hms78_2 := NB832_842.out
    have hms78_3 := NB832_852.out
    have hs79 : w73.cell? ⟨gb832, 2, none⟩ = some (.int .i64 0) := bt BK832 rfl
    have hfs79 := blk_frozen BK832.out 2
    have hns79_0 := NB831_832.out
    have hns79_2 := NB842_832.out
    have hns79_3 := NB852_832.out
    have hms79_0 := NB832_831.out
    have hms79_2 := NB832_842.out
    have hms79_3 := NB832_852.out
    have hs80 : w73.cell? ⟨gb832, 3, none⟩ = some (.int .i64 0) := bt BK832 rfl
    have hfs80 := blk_frozen BK832.out 3
    have hns80_0 := NB831_832.out
    have hns80_2 := NB842_832.out
    have hns80_3 := NB852_832.out
    have hms80_0 := NB832_831.out
    have hms80_2 := NB832_842.out
    have hms80_3 := NB832_852.out
    have hs81 : w73.cell? ⟨gb832, 4, none⟩ = some (.int .i64 0) := bt BK832 rfl
    have hfs81 := blk_frozen BK832.out 4
    have hns81_0 := NB831_832.out
    have hns81_2 := NB842_832.out
    have hns81_3 := NB852_832.out
    have hms81_0 := NB832_831.out
    have hms81_2 := NB832_842.out
    have hms81_3 := NB832_852.out
    have hs82 : w73.cell? ⟨gb832, 5, none⟩ = some (.int .i64 0) := bt BK832 rfl
    have hfs82 := blk_frozen BK832.out 5
    have hns82_0 := NB831_832.out
    have hns82_2 := NB842_832.out
    have hns82_3 := NB852_832.out
    have hms82_0 := NB832_831.out
    have hms82_2 := NB832_842.out
    have hms82_3 := NB832_852.out
    have hs83 : w73.cell? ⟨gb832, 6, none⟩ = some (.int .i64 0) := bt BK832 rfl
    have hfs83 := blk_frozen BK832.out 6
    have hns83_0 := NB831_832.out
    have hns83_2 := NB842_832.out
    have hns83_3 := NB852_832.out
    have hms83_0 := NB832_831.out
    have hms83_2 := NB832_842.out
    have hms83_3 := NB832_852.out
    have hs84 : w73.cell? ⟨gb832, 7, none⟩ = some (.int .i64 0) := bt BK832 rfl
    have hfs84 := blk_frozen BK832.out 7
    have hns84_0 := NB831_832.out
    have hns84_2 := NB842_832.out
    have hns84_3 := NB852_832.out
    have hms84_0 := NB832_831.out
    have hms84_2 := NB832_842.out
    have hms84_3 := NB832_852.out
    refine skip_ (w1 := ?_) (by rfl) rfl ?_ ?_
    rotate_left
    · go_simp
      rfl
    refine hK.out _ _ ⟨((cell_far (p := ⟨gb832, _, none⟩) NB842_832.out _).trans (((cell_far (p := ⟨gb832, _, none⟩) NB842_832.out _).trans (((cell_far (p := ⟨gb832, _, none⟩) NB842_832.out _).trans (((cell_far (p := ⟨gb832, _, none⟩) NB842_832.out _).trans (((cell_far (p := ⟨gb832, _, none⟩) NB842_832.out _).trans (((cell_far (p := ⟨gb832, _, none⟩) NB842_832.out _).trans (((cell_far (p := ⟨gb832, _, none⟩) NB842_832.out _).trans (((cell_far (p := ⟨gb832, _, none⟩) NB842_832.out _).trans (hHeld.1)))))))))))))))), ((cell_far (p := ⟨gb832, _, none⟩) NB842_832.out _).trans (((cell_far (p := ⟨gb832, _, none⟩) NB842_832.out _).trans (((cell_far (p := ⟨gb832, _, none⟩) NB842_832.out _).trans (((cell_far (p := ⟨gb832, _, none⟩) NB842_832.out _).trans (((cell_far (p := ⟨gb832, _, none⟩) NB842_832.out _).trans (((cell_far (p := ⟨gb832, _, none⟩) NB842_832.out _).trans (((cell_far (p := ⟨gb832, _, none⟩) NB842_832.out _).trans (((cell_far (p := ⟨gb832, _, none⟩) NB842_832.out _).trans (hHeld.2.1)))))))))))))))), ((cell_far (p := ⟨gb832, _, none⟩) NB842_832.out _).trans (((cell_far (p := ⟨gb832, _, none⟩) NB842_832.out _).trans (((cell_far (p := ⟨gb832, _, none⟩) NB842_832.out _).trans (((cell_far (p := ⟨gb832, _, none⟩) NB842_832.out _).trans (((cell_far (p := ⟨gb832, _, none⟩) NB842_832.out _).trans (((cell_far (p := ⟨gb832, _, none⟩) NB842_832.out _).trans (((cell_far (p := ⟨gb832, _, none⟩) NB842_832.out _).trans (((cell_far (p := ⟨gb832, _, none⟩) NB842_832.out _).trans (hHeld.2.2.1)))))))))))))))), ((cell_far (p := ⟨gb832, _, none⟩) NB852_832.out _).trans (((cell_far (p := ⟨gb832, _, none⟩) NB852_832.out _).trans (((cell_far (p := ⟨gb832, _, none⟩) NB852_832.out _).trans (((cell_far (p := ⟨gb832, _, none⟩) NB852_832.out _).trans (((cell_far (p := ⟨gb832, _, none⟩) NB852_832.out _).trans (((cell_far (p := ⟨gb832, _, none⟩) NB852_832.out _).trans (((cell_far (p := ⟨gb832, _, none⟩) NB852_832.out _).trans (((cell_far (p := ⟨gb832, _, none⟩) NB852_832.out _).trans (hHeld.2.2.2.1)))))))))))))))), ((cell_far (p := ⟨gb832, _, none⟩) NB852_832.out _).trans (((cell_far (p := ⟨gb832, _, none⟩) NB852_832.out _).trans (((cell_far (p := ⟨gb832, _, none⟩) NB852_832.out _).trans (((cell_far (p := ⟨gb832, _, none⟩) NB852_832.out _).trans (((cell_far (p := ⟨gb832, _, none⟩) NB852_832.out _).trans (((cell_far (p := ⟨gb832, _, none⟩) NB852_832.out _).trans (((cell_far (p := ⟨gb832, _, none⟩) NB852_832.out _).trans (((cell_far (p := ⟨gb832, _, none⟩) NB852_832.out _).trans (hHeld.2.2.2.2.1)))))))))))))))), ((cell_far (p := ⟨gb832, _, none⟩) NB852_832.out _).trans (((cell_far (p := ⟨gb832, _, none⟩) NB852_832.out _).trans (((cell_far (p := ⟨gb832, _, none⟩) NB852_832.out _).trans (((cell_far (p := ⟨gb832, _, none⟩) NB852_832.out _).trans (((cell_far (p := ⟨gb832, _, none⟩) NB852_832.out _).trans (((cell_far (p := ⟨gb832, _, none⟩) NB852_832.out _).trans (((cell_far (p := ⟨gb832, _, none⟩) NB852_832.out _).trans (((cell_far (p := ⟨gb832, _, none⟩) NB852_832.out _).trans (hHeld.2.2.2.2.2.1)))))))))))))))), ((cell_far (p := ⟨gb832, _, none⟩) NB852_832.out _).trans (((cell_far (p := ⟨gb832, _, none⟩) NB852_832.out _).trans (((cell_far (p := ⟨gb832, _, none⟩) NB852_832.out _).trans (((cell_far (p := ⟨gb832, _, none⟩) NB852_832.out _).trans (((cell_far (p := ⟨gb832, _, none⟩) NB852_832.out _).trans (((cell_far (p := ⟨gb832, _, none⟩) NB852_832.out _).trans (((cell_far (p := ⟨gb832, _, none⟩) NB852_832.out _).trans (((cell_far (p := ⟨gb832, _, none⟩) NB852_832.out _).trans (hHeld.2.2.2.2.2.2.1)))))))))))))))), ((cell_far (p := ⟨gb832, _, none⟩) NB852_832.out _).trans (((cell_far (p := ⟨gb832, _, none⟩) NB852_832.out _).trans (((cell_far (p := ⟨gb832, _, none⟩) NB852_832.out _).trans (((cell_far (p := ⟨gb832, _, none⟩) NB852_832.out _).trans (((cell_far (p := ⟨gb832, _, none⟩) NB852_832.out _).trans (((cell_far (p := ⟨gb832, _, none⟩) NB852_832.out _).trans (((cell_far (p := ⟨gb832, _, none⟩) NB852_832.out _).trans (((cell_far (p := ⟨gb832, _, none⟩) NB852_832.out _).trans (hHeld.2.2.2.2.2.2.2.1)))))))))))))))), ((cell_far (p := ⟨gb832, _, none⟩) NB852_832.out _).trans (((cell_far (p := ⟨gb832, _, none⟩) NB852_832.out _).trans (((cell_far (p := ⟨gb832, _, none⟩) NB852_832.out _).trans (((cell_far (p := ⟨gb832, _, none⟩) NB852_832.out _).trans (((cell_far (p := ⟨gb832, _, none⟩) NB852_832.out _).trans (((cell_far (p := ⟨gb832, _, none⟩) NB852_832.out _).trans (((cell_far (p := ⟨gb832, _, none⟩) NB852_832.out _).trans (((cell_far (p := ⟨gb832, _, none⟩) NB852_832.out _).trans (hHeld.2.2.2.2.2.2.2.2.1)))))))))))))))), ((cell_far (p := ⟨gb832, _, none⟩) NB852_832.out _).trans (((cell_far (p := ⟨gb832, _, none⟩) NB852_832.out _).trans (((cell_far (p := ⟨gb832, _, none⟩) NB852_832.out _).trans (((cell_far (p := ⟨gb832, _, none⟩) NB852_832.out _).trans (((cell_far (p := ⟨gb832, _, none⟩) NB852_832.out _).trans (((cell_far (p := ⟨gb832, _, none⟩) NB852_832.out _).trans (((cell_far (p := ⟨gb832, _, none⟩) NB852_832.out _).trans (((cell_far (p := ⟨gb832, _, none⟩) NB852_832.out _).trans (hHeld.2.2.2.2.2.2.2.2.2.1)))))))))))))))), ((cell_far (p := ⟨gb832, _, none⟩) NB852_832.out _).trans (((cell_far (p := ⟨gb832, _, none⟩) NB852_832.out _).trans (((cell_far (p := ⟨gb832, _, none⟩) NB852_832.out _).trans (((cell_far (p := ⟨gb832, _, none⟩) NB852_832.out _).trans (((cell_far (p := ⟨gb832, _, none⟩) NB852_832.out _).trans (((cell_far (p := ⟨gb832, _, none⟩) NB852_832.out _).trans (((cell_far (p := ⟨gb832, _, none⟩) NB852_832.out _).trans (((cell_far (p := ⟨gb832, _, none⟩) NB852_832.out _).trans (hHeld.2.2.2.2.2.2.2.2.2.2))))))))))))))))⟩ (fun hHeld => ?_)
    clear hK K
    refine pure_ (i := 15) (N := some 4) (v := ?_) (a' := ?_) #[true, true, true, true, true, true, true, true, true, true, true, true, true, true, true, true] rfl rfl (any_of HT_.out (by kernel_rfl)) (fun _ _ _ h => h) (Or.inl ⟨by rfl, ?_⟩) ?_ ?_
    rotate_left
    · intro w'
      go_simp
      with_reducible rfl
    rotate_left
    · simp only [Act.put, List.setIfInBounds_toArray, List.set_cons_zero, List.set_cons_succ, i64_w, i32_w]
      rfl
    refine done_ (done_of HT_.out (by kernel_rfl)) ?_
    try go_wp2
    refine bodyPost_ret (results_list (rs := [.cell 2 25, .cell 3 41, .tmp 4]) rfl (by simp) (.cell gb831 25 #[.int .i64 t836, .int .i64 t837, .slice Ao62 t838.length co62] (0, 0) _ rfl (by (with_reducible repeat (first | apply bn | apply bd | apply ba)); refine blk_far ?_ NB831_832.out _; (with_reducible repeat (first | apply bn | apply bd | apply ba)); refine blk_far ?_ NB831_832.out _; (with_reducible repeat (first | apply bn | apply bd | apply ba)); refine blk_far ?_ NB831_832.out _; (with_reducible repeat (first | apply bn | apply bd | apply ba)); refine blk_far ?_ NB831_832.out _; (with_reducible repeat (first | apply bn | apply bd | apply ba)); refine blk_far ?_ NB831_832.out _; (with_reducible repeat (first | apply bn | apply bd | apply ba)); refine blk_far ?_ NB831_832.out _; (with_reducible repeat (first | apply bn | apply bd | apply ba)); refine blk_far ?_ NB831_832.out _; (with_reducible repeat (first | apply bn | apply bd | apply ba)); refine blk_far ?_ NB831_832.out _; (with_reducible repeat (first | apply bn | apply bd | apply ba)); exact p3 BK831) Try.underlying25 rfl (by kernel_rfl) (.cell gb832 41 #[.int .i64 t843, .int .i64 t844, .int .i64 t845, .int .i64 t846, .int .i64 t847, .int .i64 t848, .int .i64 t849, .int .i64 t850] (0, 0) _ rfl (by (with_reducible repeat (first | apply bn | apply bd | apply ba)); refine blk_put (cs := #[.int .i64 t843, .int .i64 t844, .int .i64 t845, .int .i64 t846, .int .i64 t847, .int .i64 t848, .int .i64 t849, .int .i64 0]) ?_ 7 _ rfl; (with_reducible repeat (first | apply bn | apply bd | apply ba)); refine blk_put (cs := #[.int .i64 t843, .int .i64 t844, .int .i64 t845, .int .i64 t846, .int .i64 t847, .int .i64 t848, .int .i64 0, .int .i64 0]) ?_ 6 _ rfl; (with_reducible repeat (first | apply bn | apply bd | apply ba)); refine blk_put (cs := #[.int .i64 t843, .int .i64 t844, .int .i64 t845, .int .i64 t846, .int .i64 t847, .int .i64 0, .int .i64 0, .int .i64 0]) ?_ 5 _ rfl; (with_reducible repeat (first | apply bn | apply bd | apply ba)); refine blk_put (cs := #[.int .i64 t843, .int .i64 t844, .int .i64 t845, .int .i64 t846, .int .i64 0, .int .i64 0, .int .i64 0, .int .i64 0]) ?_ 4 _ rfl; (with_reducible repeat (first | apply bn | apply bd | apply ba)); refine blk_put (cs := #[.int .i64 t843, .int .i64 t844, .int .i64 t845, .int .i64 0, .int .i64 0, .int .i64 0, .int .i64 0, .int .i64 0]) ?_ 3 _ rfl; (with_reducible repeat (first | apply bn | apply bd | apply ba)); refine blk_put (cs := #[.int .i64 t843, .int .i64 t844, .int .i64 0, .int .i64 0, .int .i64 0, .int .i64 0, .int .i64 0, .int .i64 0]) ?_ 2 _ rfl; (with_reducible repeat (first | apply bn | apply bd | apply ba)); refine blk_put (cs := #[.int .i64 t843, .int .i64 0, .int .i64 0, .int .i64 0, .int .i64 0, .int .i64 0, .int .i64 0, .int .i64 0]) ?_ 1 _ rfl; (with_reducible repeat (first | apply bn | apply bd | apply ba)); refine blk_put (cs := #[.int .i64 0, .int .i64 0, .int .i64 0, .int .i64 0, .int .i64 0, .int .i64 0, .int .i64 0, .int .i64 0]) ?_ 0 _ rfl; (repeat (first | (with_reducible first | apply bn | apply bd | apply ba) | apply bf NB832_831)); exact BK832.out) Try.underlying41 rfl (by kernel_rfl) (.tmp .nil)))) rfl ?_
    exact ⟨_, by first | rfl | (simp [errW_none, errW_some] <;> rfl) | (simp [*, errW_none, errW_some] <;> rfl), by (with_reducible repeat (first | apply Kd.Q_alloc | apply Kd.Q_drewN | apply Kd.Q_drew)); exact Kd.Q_mono (Kd.Q_far (p := ⟨gb832, 7, none⟩) (Kd.Q_far (p := ⟨gb832, 6, none⟩) (Kd.Q_far (p := ⟨gb832, 5, none⟩) (Kd.Q_far (p := ⟨gb832, 4, none⟩) (Kd.Q_far (p := ⟨gb832, 3, none⟩) (Kd.Q_far (p := ⟨gb832, 2, none⟩) (Kd.Q_far (p := ⟨gb832, 1, none⟩) (Kd.Q_far (p := ⟨gb832, 0, none⟩) (Kd.Q_far (p := ⟨gb831, 2, none⟩) (Kd.Q_far (p := ⟨gb831, 1, none⟩) (Kd.Q_far (p := ⟨gb831, 0, none⟩) (Kd.Q_types (Kd.Q_types HO840.out BK831.out (by decide)) BK832.out (by decide)) (fun _ hk => hk.1.2) (.int .i64 t836)) (fun _ hk => hk.1.2) (.int .i64 t837)) (fun _ hk => hk.1.2) (.slice Ao62 t838.length co62)) (fun _ hk => hk.2) (.int .i64 t843)) (fun _ hk => hk.2) (.int .i64 t844)) (fun _ hk => hk.2) (.int .i64 t845)) (fun _ hk => hk.2) (.int .i64 t846)) (fun _ hk => hk.2) (.int .i64 t847)) (fun _ hk => hk.2) (.int .i64 t848)) (fun _ hk => hk.2) (.int .i64 t849)) (fun _ hk => hk.2) (.int .i64 t850)) (fun _ hk => trivial), by repeat (first | (with_reducible first | exact HB.out | apply wa | apply wn | apply wd | refine below_set ?_ (IsS96.ge HI835.out) | refine ws ‹_› ?_) | exact HB.out)⟩


end Go.Proofs.Ytcefiblpnegepaa.Pr
