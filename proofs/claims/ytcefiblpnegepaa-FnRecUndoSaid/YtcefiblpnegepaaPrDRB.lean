-- Laid by a program (extract.py) out of this seat's translation: contracts of a few functions, a text a function; Lean checks them.
import Derived.Test.YtcefiblpnegepaaPrK
import Derived.Test.YtcefiblpnegepaaPrL71
namespace Go.Proofs.Ytcefiblpnegepaa.Pr
open Go.RowKit Go.Proofs.YtcefiblpnegepaaW.PrintWords Go.Proofs.YtcefiblpnegepaaW.PrintLast Go.Proofs.YtcefiblpnegepaaW.PrintMore
attribute [local go_sem] max2_int min2_int max_two min_two max_three min_three max_four min_four
set_option linter.unusedVariables false
set_option linter.unusedSimpArgs false
/-! ### spec_DrawRecBack: function 38 -/
def spec_DrawRecBack.l0 : Nat → Int → List Int → Int → Int → Int → Int → Int → Int → Int → Int → Int → Option (Int × Int × Int × Int × Int × Int × Int × Int × Int)
  | 0, _, _, _, _, _, _, _, _, _, _, _ => none
  | k + 1, x6, x395000, x395001, x405000, x405001, x405002, x405003, x405004, x405005, x405006, x405007 => if x6 < 4 then ((spec_l6Rd_pick.f k x395000 x395001 8).bind fun bt405 => (if bt405.1 > 0 then (if x405000 = 1 then ((spec_l6Rd_pick.f k x395000 bt405.2 12).bind fun bt407 => ((spec_l6Rd_pick.f k x395000 bt407.2 24).bind fun bt409 => (some (x405000, x405001, x405002, x405003, x405004, x405005, x405006, x405007, wrap64 (bt407.1 - (wrap64 ((wrap64 (Int.tdiv bt409.1 23)) * 13))))))) else (if x405000 = 2 then ((spec_l6Rd_pick.f k x395000 bt405.2 12).bind fun bt411 => ((spec_l6Rd_pick.f k x395000 bt411.2 24).bind fun bt413 => (some (x405000, x405001, x405002, x405003, x405004, x405005, x405006, x405007, wrap64 (bt411.1 - (wrap64 ((wrap64 (Int.tdiv bt413.1 23)) * 13))))))) else ((spec_l71Rec.f k x395000 bt405.2).bind fun bt415 => (spec_DrawRecBack.l0 k (wrap64 (x6 + 1)) x395000 bt415.2.2.2.2.2.2.2.2 bt415.1 bt415.2.1 bt415.2.2.1 bt415.2.2.2.1 bt415.2.2.2.2.1 bt415.2.2.2.2.2.1 bt415.2.2.2.2.2.2.1 bt415.2.2.2.2.2.2.2.1)))) else ((spec_l6Rd_pick.f k x395000 bt405.2 12).bind fun bt424 => ((spec_l6Rd_pick.f k x395000 bt424.2 24).bind fun bt426 => (some (x405000, x405001, x405002, x405003, x405004, x405005, x405006, x405007, wrap64 (bt424.1 - (wrap64 ((wrap64 (Int.tdiv bt426.1 23)) * 13))))))))) else ((spec_l6Rd_pick.f k x395000 x395001 12).bind fun bt428 => ((spec_l6Rd_pick.f k x395000 bt428.2 24).bind fun bt430 => (some (x405000, x405001, x405002, x405003, x405004, x405005, x405006, x405007, wrap64 (bt428.1 - (wrap64 ((wrap64 (Int.tdiv bt430.1 23)) * 13)))))))
def spec_DrawRecBack.f (k : Nat) (l0 : List Int) : Option (Int × Int × Int × Int × Int × Int × Int × Int × Int) := (spec_l6Open.f l0).bind fun bt392 => ((spec_l71Rec.f k bt392.1 bt392.2).bind fun bt395 => (spec_DrawRecBack.l0 k 0 bt392.1 bt395.2.2.2.2.2.2.2.2 bt395.1 bt395.2.1 bt395.2.2.1 bt395.2.2.2.1 bt395.2.2.2.2.1 bt395.2.2.2.2.2.1 bt395.2.2.2.2.2.2.1 bt395.2.2.2.2.2.2.2.1))
theorem spec_DrawRecBack.mono_l : ∀ k, (∀ y0 y1 y2 y3 y4 y5 y6 y7 y8 y9 y10, LeO (spec_DrawRecBack.l0 k y0 y1 y2 y3 y4 y5 y6 y7 y8 y9 y10) (spec_DrawRecBack.l0 (k + 1) y0 y1 y2 y3 y4 y5 y6 y7 y8 y9 y10))
  | 0 => fun _ _ _ _ _ _ _ _ _ _ _ r h => by simp [spec_DrawRecBack.l0] at h
  | k + 1 => by
    have ih0 := spec_DrawRecBack.mono_l k
    · intro y0 y1 y2 y3 y4 y5 y6 y7 y8 y9 y10
      unfold spec_DrawRecBack.l0
      repeat' first
      | (with_reducible exact ih0 _ _ _ _ _ _ _ _ _ _ _)
      | (with_reducible exact spec_l6Rd_pick.mono _ _ _ _)
      | (with_reducible exact spec_l71Rec.mono _ _ _)
      | (with_reducible exact LeO.refl _)
      | (with_reducible exact LeO.none _)
      | (with_reducible refine LeO.ite ?_ ?_)
      | (with_reducible refine LeO.bind ?_ (fun _ => ?_))
      | exact ih0 _ _ _ _ _ _ _ _ _ _ _
      | exact spec_l6Rd_pick.mono _ _ _ _
      | exact spec_l71Rec.mono _ _ _
      | exact LeO.none _
      | refine LeO.ite ?_ ?_
      | refine LeO.bind ?_ (fun _ => ?_)
theorem spec_DrawRecBack.mono : ∀ a0 k, LeO (spec_DrawRecBack.f k a0) (spec_DrawRecBack.f (k + 1) a0) := by
  intro a0 k
  have ih0 := spec_DrawRecBack.mono_l k
  unfold spec_DrawRecBack.f
  repeat' first
      | (with_reducible exact ih0 _ _ _ _ _ _ _ _ _ _ _)
      | (with_reducible exact spec_l6Rd_pick.mono _ _ _ _)
      | (with_reducible exact spec_l71Rec.mono _ _ _)
      | (with_reducible exact LeO.refl _)
      | (with_reducible exact LeO.none _)
      | (with_reducible refine LeO.ite ?_ ?_)
      | (with_reducible refine LeO.bind ?_ (fun _ => ?_))
      | exact ih0 _ _ _ _ _ _ _ _ _ _ _
      | exact spec_l6Rd_pick.mono _ _ _ _
      | exact spec_l71Rec.mono _ _ _
      | exact LeO.none _
      | refine LeO.ite ?_ ?_
      | refine LeO.bind ?_ (fun _ => ?_)
def spec_DrawRecBack.T7 : Bool × List (List Nat × List Nat) := (true, [([], []), ([], []), ([1], [1]), ([], []), ([3, 2], [3]), ([4], [4]), ([5], [5]), ([2, 6], [2, 6]), ([0, 4, 0], [0]), ([7, 8, 0, 1, 2, 3, 4, 5, 6, 7, 8], [7])])
def spec_DrawRecBack.B7 : List Nat := [0, 0, 2, 0, 14, 30, 62, 126, 31, 511]
theorem spec_DrawRecBack.tab7 : rtab .any (opsOf Try.f38 7) = spec_DrawRecBack.T7 := by kernel_rfl
theorem spec_DrawRecBack.bits7 : waitsOk spec_DrawRecBack.T7.2 spec_DrawRecBack.B7 = true := by kernel_rfl
set_option maxHeartbeats 8000000 in
set_option maxRecDepth 100000 in
theorem spec_DrawRecBack.calls (k : Nat) (A0 : Option Addr) (c0 : Nat) (l0 : List Int) (r1 : Int) (r2 : Int) (r3 : Int) (r4 : Int) (r5 : Int) (r6 : Int) (r7 : Int) (r8 : Int) (r9 : Int) (w : World) (hr0 : Kd.C (Kd.int .u8) w A0 l0.length l0) (hc0 : l0.length ≤ c0) (h : spec_DrawRecBack.f k l0 = some (r1, r2, r3, r4, r5, r6, r7, r8, r9)) :
    Calls Try.prog 38 #[.slice A0 l0.length c0] w fun e w' => e = .returned (.tuple #[.agg #[.int .i64 r1, .int .i64 r2, .int .i64 r3, .int .i64 r4, .int .i64 r5, .int .i64 r6, .int .i64 r7, .int .i64 r8], .int .i64 r9]) ∧ Below w.heap.size w w' := by
  have hu41 := Try.underlying41
  have HR0 := Aside0.mk hr0
  have HC0 := Aside0.mk hc0
  clear hr0 hc0
  have HB := Aside0.mk (Below.refl w.heap.size w)
  have H : ((spec_l6Open.f l0).bind fun bt392 => ((spec_l71Rec.f k bt392.1 bt392.2).bind fun bt395 => (spec_DrawRecBack.l0 k 0 bt392.1 bt395.2.2.2.2.2.2.2.2 bt395.1 bt395.2.1 bt395.2.2.1 bt395.2.2.2.1 bt395.2.2.2.2.1 bt395.2.2.2.2.2.1 bt395.2.2.2.2.2.2.1 bt395.2.2.2.2.2.2.2.1))) = some (r1, r2, r3, r4, r5, r6, r7, r8, r9) := h
  clear h
  replace H := Option.bind_eq_some_iff.mp H
  obtain ⟨⟨t392, t393⟩, A20, H⟩ := H
  replace H : ((spec_l71Rec.f k t392 t393).bind fun bt395 => (spec_DrawRecBack.l0 k 0 t392 bt395.2.2.2.2.2.2.2.2 bt395.1 bt395.2.1 bt395.2.2.1 bt395.2.2.2.1 bt395.2.2.2.2.1 bt395.2.2.2.2.2.1 bt395.2.2.2.2.2.2.1 bt395.2.2.2.2.2.2.2.1)) = some (r1, r2, r3, r4, r5, r6, r7, r8, r9) := H
  have A2 := Aside0.mk A20
  clear A20
  replace H := Option.bind_eq_some_iff.mp H
  obtain ⟨⟨t395, t396, t397, t398, t399, t400, t401, t402, t403⟩, A30, H⟩ := H
  replace H : (spec_DrawRecBack.l0 k 0 t392 t403 t395 t396 t397 t398 t399 t400 t401 t402) = some (r1, r2, r3, r4, r5, r6, r7, r8, r9) := H
  have A3 := Aside0.mk A30
  clear A30
  have H' := Aside0.mk H
  clear H
  go_enter Try.func38, Try.ntmps38
  go_wp2_with (first | ((with_reducible refine gate_dst (N := 2) rfl ?_); refine box_event ?hg (N := 2) ?hd (cs := #[.int .i64 0, .int .i64 0, .int .i64 0, .int .i64 0, .int .i64 0, .int .i64 0, .int .i64 0, .int .i64 0]) (t := 41) ?hr ?_; (case hd => rfl); (case hg => rfl); (case hr => first | (go_simp; done) | (go_simp; rfl)); intro gb391 hg w4 hbox hb; have n0_ := Aside0.mk (below_step (by repeat (first | (with_reducible first | exact HB.out | apply below_alloc | apply pw_below_drewN | apply below_drew1) | exact HB.out)) hb); have n1_ := Aside0.mk (hbox); have n2_ := Aside0.mk ((by rw [hg]; exact (below_size (by repeat (first | (with_reducible first | exact HB.out | apply below_alloc | apply pw_below_drewN | apply below_drew1) | exact HB.out))) : w.heap.size ≤ gb391)); have n3_ := Aside0.mk ((by rw [hg]; exact (below_size (by repeat (first | (with_reducible first | exact HB.out | apply below_alloc | apply pw_below_drewN | apply below_drew1) | exact HB.out))) : w.heap.size ≤ gb391)); clear HB; have HB := n0_; have BK391 := n1_; have GW391 := n2_; have GE391 := n3_; clear n0_ n1_ n2_ n3_; clear hb hbox hg) | ((with_reducible refine gate_callee (f := 75) rfl ?_); refine goesL_ (some 8) rfl rfl Try.func75 (by kernel_rfl) rfl #[.slice A0 l0.length c0] rfl (by (try simp only [List.map_toArray, List.map_cons, List.map_nil]); first | done | rfl | (simp only [List.length_drop, List.length_take]; rfl)) ?_; (with_reducible refine (spec_l6Open.calls _ _ l0 t392 t393 w _ ?side1 ?side2 ?side3 A2.out).mono ?_); (case side1 => repeat (first | (with_reducible first | exact HB.out | apply below_alloc | apply pw_below_drewN | apply below_drew1 | refine below_set ?_ GE391.out) | exact HB.out)); (case side2 => exact HR0.out); (case side3 => exact HC0.out); rintro e w5 ⟨g394, rfl, hi, hb, hb2⟩; refine ⟨_, rfl, ?_⟩; have n0_ := Aside0.mk (blk_below (g := gb391) (o := .cells #[.int .i64 0, .int .i64 0, .int .i64 0, .int .i64 0, .int .i64 0, .int .i64 0, .int .i64 0, .int .i64 0] 41 (0, 0)) (by (with_reducible repeat (first | refine blk_drewN ?_ _ | refine blk_drew ?_ | refine blk_alloc ?_ _)); exact BK391.out) hb2); have n1_ := Aside0.mk (hb); have n2_ := Aside0.mk (hi); have n3_ := Aside0.mk (IsS96.ne_blk hi (blk_below (g := gb391) (o := .cells #[.int .i64 0, .int .i64 0, .int .i64 0, .int .i64 0, .int .i64 0, .int .i64 0, .int .i64 0, .int .i64 0] 41 (0, 0)) (by (with_reducible repeat (first | refine blk_drewN ?_ _ | refine blk_drew ?_ | refine blk_alloc ?_ _)); exact BK391.out) hb2) (by decide)); have n4_ := Aside0.mk (Ne.symm (IsS96.ne_blk hi (blk_below (g := gb391) (o := .cells #[.int .i64 0, .int .i64 0, .int .i64 0, .int .i64 0, .int .i64 0, .int .i64 0, .int .i64 0, .int .i64 0] 41 (0, 0)) (by (with_reducible repeat (first | refine blk_drewN ?_ _ | refine blk_drew ?_ | refine blk_alloc ?_ _)); exact BK391.out) hb2) (by decide))); clear BK391; clear HB; have BK391 := n0_; have HB := n1_; have HI394 := n2_; have NB394_391 := n3_; have NB391_394 := n4_; clear n0_ n1_ n2_ n3_ n4_; (try clear hb); (try clear hb2); (try clear hk); (try clear hi)) | ((with_reducible refine gate_callee (f := 88) rfl ?_); refine goesL_ (some 10) rfl rfl Try.func88 (by kernel_rfl) rfl #[.pointer (some ⟨g394, 0, none⟩)] rfl (by (try simp only [List.map_toArray, List.map_cons, List.map_nil]); first | done | rfl | (simp only [List.length_drop, List.length_take]; rfl)) ?_; (with_reducible refine (spec_l71Rec.calls k g394 t392 t393 t395 t396 t397 t398 t399 t400 t401 t402 t403 w _ ?side1 ?side2 A3.out).mono ?_); (case side1 => repeat (first | (with_reducible first | exact HI394.out | apply IsS96.alloc | apply IsS96.drewN | apply IsS96.drew | apply IsS96.set_1 | refine IsS96.far ?_ NB394_391.out _) | exact HI394.out)); (case side2 => repeat (first | (with_reducible first | exact HB.out | apply below_alloc | apply pw_below_drewN | apply below_drew1 | refine below_set ?_ (IsS96.ge HI394.out) | refine below_set ?_ GE391.out) | exact HB.out)); rintro e w6 ⟨rfl, hi, hb, hk⟩; refine ⟨_, rfl, ?_⟩; have n0_ := Aside0.mk (KeepBut.blk hk (g' := gb391) (o := .cells #[.int .i64 0, .int .i64 0, .int .i64 0, .int .i64 0, .int .i64 0, .int .i64 0, .int .i64 0, .int .i64 0] 41 (0, 0)) (by (with_reducible repeat (first | refine blk_drewN ?_ _ | refine blk_drew ?_ | refine blk_alloc ?_ _)); exact BK391.out) NB391_394.out (by simp)); have n1_ := Aside0.mk (hb); have n2_ := Aside0.mk (hi); clear BK391; clear HB; clear HI394; have BK391 := n0_; have HB := n1_; have HI394 := n2_; clear n0_ n1_ n2_; (try clear hb); (try clear hb2); (try clear hk); (try clear hi)) | ((with_reducible refine gate_dst (N := 5) rfl ?_); refine box_event ?hg (N := 5) ?hd (cs := #[.int .i64 0, .int .i64 0, .int .i64 0, .int .i64 0, .int .i64 0, .int .i64 0, .int .i64 0, .int .i64 0]) (t := 41) ?hr ?_; (case hd => rfl); (case hg => rfl); (case hr => first | (go_simp; done) | (go_simp; rfl)); intro gb404 hg w7 hbox hb; have n0_ := Aside0.mk (blk_below (g := gb391) (o := .cells #[.int .i64 0, .int .i64 0, .int .i64 0, .int .i64 0, .int .i64 0, .int .i64 0, .int .i64 0, .int .i64 0] 41 (0, 0)) (by (with_reducible repeat (first | refine blk_drewN ?_ _ | refine blk_drew ?_ | refine blk_alloc ?_ _)); exact BK391.out) hb); have n1_ := Aside0.mk (IsS96.below (by repeat (first | (with_reducible first | exact HI394.out | apply IsS96.alloc | apply IsS96.drewN | apply IsS96.drew | apply IsS96.set_1 | refine IsS96.far ?_ NB394_391.out _) | exact HI394.out)) hb); have n2_ := Aside0.mk (below_step (by repeat (first | (with_reducible first | exact HB.out | apply below_alloc | apply pw_below_drewN | apply below_drew1 | refine below_set ?_ (IsS96.ge HI394.out) | refine below_set ?_ GE391.out) | exact HB.out)) hb); have n3_ := Aside0.mk (hbox); have n4_ := Aside0.mk ((by rw [hg]; exact (below_size (by repeat (first | (with_reducible first | exact HB.out | apply below_alloc | apply pw_below_drewN | apply below_drew1 | refine below_set ?_ (IsS96.ge HI394.out) | refine below_set ?_ GE391.out) | exact HB.out))) : w.heap.size ≤ gb404)); have n5_ := Aside0.mk ((by rw [hg]; exact (below_size (by repeat (first | (with_reducible first | exact HB.out | apply below_alloc | apply pw_below_drewN | apply below_drew1 | refine below_set ?_ (IsS96.ge HI394.out) | refine below_set ?_ GE391.out) | exact HB.out))) : w.heap.size ≤ gb404)); have n6_ := Aside0.mk ((by rw [hg]; exact Nat.ne_of_lt (blk_lt (g := gb391) (o := .cells #[.int .i64 0, .int .i64 0, .int .i64 0, .int .i64 0, .int .i64 0, .int .i64 0, .int .i64 0, .int .i64 0] 41 (0, 0)) (by (with_reducible repeat (first | refine blk_drewN ?_ _ | refine blk_drew ?_ | refine blk_alloc ?_ _)); exact BK391.out)) : gb391 ≠ gb404)); have n7_ := Aside0.mk ((by rw [hg]; exact Nat.ne_of_gt (blk_lt (g := gb391) (o := .cells #[.int .i64 0, .int .i64 0, .int .i64 0, .int .i64 0, .int .i64 0, .int .i64 0, .int .i64 0, .int .i64 0] 41 (0, 0)) (by (with_reducible repeat (first | refine blk_drewN ?_ _ | refine blk_drew ?_ | refine blk_alloc ?_ _)); exact BK391.out)) : gb404 ≠ gb391)); have n8_ := Aside0.mk ((by rw [hg]; exact Nat.ne_of_lt (IsS96.lt (show IsS96 w _ g394 t392 t403 from by repeat (first | (with_reducible first | exact HI394.out | apply IsS96.alloc | apply IsS96.drewN | apply IsS96.drew | apply IsS96.set_1 | refine IsS96.far ?_ NB394_391.out _) | exact HI394.out))) : g394 ≠ gb404)); have n9_ := Aside0.mk ((by rw [hg]; exact Nat.ne_of_gt (IsS96.lt (show IsS96 w _ g394 t392 t403 from by repeat (first | (with_reducible first | exact HI394.out | apply IsS96.alloc | apply IsS96.drewN | apply IsS96.drew | apply IsS96.set_1 | refine IsS96.far ?_ NB394_391.out _) | exact HI394.out))) : gb404 ≠ g394)); clear BK391; clear HI394; clear HB; have BK391 := n0_; have HI394 := n1_; have HB := n2_; have BK404 := n3_; have GW404 := n4_; have GE404 := n5_; have NB391_404 := n6_; have NB404_391 := n7_; have NB394_404 := n8_; have NB404_394 := n9_; clear n0_ n1_ n2_ n3_ n4_ n5_ n6_ n7_ n8_ n9_; clear hb hbox hg; have hnb8 := NB404_391.out; have hnc8 := NB391_404.out; have hnb9 := NB404_394.out; have hnc9 := NB394_404.out; have hcz10_0 : w7.cell? ⟨gb404, 0, none⟩ = some (.int .i64 0) := (blk_cell BK404.out 0).trans rfl; have hcz10_1 : w7.cell? ⟨gb404, 1, none⟩ = some (.int .i64 0) := (blk_cell BK404.out 1).trans rfl; have hcz10_2 : w7.cell? ⟨gb404, 2, none⟩ = some (.int .i64 0) := (blk_cell BK404.out 2).trans rfl; have hcz10_3 : w7.cell? ⟨gb404, 3, none⟩ = some (.int .i64 0) := (blk_cell BK404.out 3).trans rfl; have hcz10_4 : w7.cell? ⟨gb404, 4, none⟩ = some (.int .i64 0) := (blk_cell BK404.out 4).trans rfl; have hcz10_5 : w7.cell? ⟨gb404, 5, none⟩ = some (.int .i64 0) := (blk_cell BK404.out 5).trans rfl; have hcz10_6 : w7.cell? ⟨gb404, 6, none⟩ = some (.int .i64 0) := (blk_cell BK404.out 6).trans rfl; have hcz10_7 : w7.cell? ⟨gb404, 7, none⟩ = some (.int .i64 0) := (blk_cell BK404.out 7).trans rfl; have hfz10_0 := blk_frozen BK404.out 0; have hfz10_1 := blk_frozen BK404.out 1; have hfz10_2 := blk_frozen BK404.out 2; have hfz10_3 := blk_frozen BK404.out 3; have hfz10_4 := blk_frozen BK404.out 4; have hfz10_5 := blk_frozen BK404.out 5; have hfz10_6 := blk_frozen BK404.out 6; have hfz10_7 := blk_frozen BK404.out 7))
  go_loopg [6] k (fun kq v6 w' => ∃ (x6_1 : Int) (x395001_1 : Int) (x405000_1 : Int) (x405001_1 : Int) (x405002_1 : Int) (x405003_1 : Int) (x405004_1 : Int) (x405005_1 : Int) (x405006_1 : Int) (x405007_1 : Int), v6 = .int .i64 x6_1 ∧ Aside0 (spec_DrawRecBack.l0 kq x6_1 t392 x395001_1 x405000_1 x405001_1 x405002_1 x405003_1 x405004_1 x405005_1 x405006_1 x405007_1 = some (r1, r2, r3, r4, r5, r6, r7, r8, r9)) ∧ Aside0 (kq ≤ k) ∧ Aside0 (w'.heap[gb391]? = some (.cells #[.int .i64 0, .int .i64 0, .int .i64 0, .int .i64 0, .int .i64 0, .int .i64 0, .int .i64 0, .int .i64 0] 41 (0, 0))) ∧ Aside0 (w'.heap[gb404]? = some (.cells #[.int .i64 x405000_1, .int .i64 x405001_1, .int .i64 x405002_1, .int .i64 x405003_1, .int .i64 x405004_1, .int .i64 x405005_1, .int .i64 x405006_1, .int .i64 x405007_1] 41 (0, 0))) ∧ Aside0 (IsS96 w w' g394 t392 x395001_1) ∧ Aside0 (Below w.heap.size w w'))
  case atStart => exact ⟨(0), (t403), (t395), (t396), (t397), (t398), (t399), (t400), (t401), (t402), (by first | rfl | (simp; done) | (simp [*]; done)), H', ⟨Nat.le_refl _⟩, ⟨by (with_reducible repeat (first | refine blk_drewN ?_ _ | refine blk_drew ?_ | refine blk_alloc ?_ _)); refine blk_far ?_ NB391_404.out _; (with_reducible repeat (first | refine blk_drewN ?_ _ | refine blk_drew ?_ | refine blk_alloc ?_ _)); refine blk_far ?_ NB391_404.out _; (with_reducible repeat (first | refine blk_drewN ?_ _ | refine blk_drew ?_ | refine blk_alloc ?_ _)); refine blk_far ?_ NB391_404.out _; (with_reducible repeat (first | refine blk_drewN ?_ _ | refine blk_drew ?_ | refine blk_alloc ?_ _)); refine blk_far ?_ NB391_404.out _; (with_reducible repeat (first | refine blk_drewN ?_ _ | refine blk_drew ?_ | refine blk_alloc ?_ _)); refine blk_far ?_ NB391_404.out _; (with_reducible repeat (first | refine blk_drewN ?_ _ | refine blk_drew ?_ | refine blk_alloc ?_ _)); refine blk_far ?_ NB391_404.out _; (with_reducible repeat (first | refine blk_drewN ?_ _ | refine blk_drew ?_ | refine blk_alloc ?_ _)); refine blk_far ?_ NB391_404.out _; (with_reducible repeat (first | refine blk_drewN ?_ _ | refine blk_drew ?_ | refine blk_alloc ?_ _)); refine blk_far ?_ NB391_404.out _; (with_reducible repeat (first | refine blk_drewN ?_ _ | refine blk_drew ?_ | refine blk_alloc ?_ _)); exact BK391.out⟩, ⟨by (with_reducible repeat (first | refine blk_drewN ?_ _ | refine blk_drew ?_ | refine blk_alloc ?_ _)); refine blk_put (cs := #[.int .i64 t395, .int .i64 t396, .int .i64 t397, .int .i64 t398, .int .i64 t399, .int .i64 t400, .int .i64 t401, .int .i64 0]) ?_ 7 _ rfl; (with_reducible repeat (first | refine blk_drewN ?_ _ | refine blk_drew ?_ | refine blk_alloc ?_ _)); refine blk_put (cs := #[.int .i64 t395, .int .i64 t396, .int .i64 t397, .int .i64 t398, .int .i64 t399, .int .i64 t400, .int .i64 0, .int .i64 0]) ?_ 6 _ rfl; (with_reducible repeat (first | refine blk_drewN ?_ _ | refine blk_drew ?_ | refine blk_alloc ?_ _)); refine blk_put (cs := #[.int .i64 t395, .int .i64 t396, .int .i64 t397, .int .i64 t398, .int .i64 t399, .int .i64 0, .int .i64 0, .int .i64 0]) ?_ 5 _ rfl; (with_reducible repeat (first | refine blk_drewN ?_ _ | refine blk_drew ?_ | refine blk_alloc ?_ _)); refine blk_put (cs := #[.int .i64 t395, .int .i64 t396, .int .i64 t397, .int .i64 t398, .int .i64 0, .int .i64 0, .int .i64 0, .int .i64 0]) ?_ 4 _ rfl; (with_reducible repeat (first | refine blk_drewN ?_ _ | refine blk_drew ?_ | refine blk_alloc ?_ _)); refine blk_put (cs := #[.int .i64 t395, .int .i64 t396, .int .i64 t397, .int .i64 0, .int .i64 0, .int .i64 0, .int .i64 0, .int .i64 0]) ?_ 3 _ rfl; (with_reducible repeat (first | refine blk_drewN ?_ _ | refine blk_drew ?_ | refine blk_alloc ?_ _)); refine blk_put (cs := #[.int .i64 t395, .int .i64 t396, .int .i64 0, .int .i64 0, .int .i64 0, .int .i64 0, .int .i64 0, .int .i64 0]) ?_ 2 _ rfl; (with_reducible repeat (first | refine blk_drewN ?_ _ | refine blk_drew ?_ | refine blk_alloc ?_ _)); refine blk_put (cs := #[.int .i64 t395, .int .i64 0, .int .i64 0, .int .i64 0, .int .i64 0, .int .i64 0, .int .i64 0, .int .i64 0]) ?_ 1 _ rfl; (with_reducible repeat (first | refine blk_drewN ?_ _ | refine blk_drew ?_ | refine blk_alloc ?_ _)); refine blk_put (cs := #[.int .i64 0, .int .i64 0, .int .i64 0, .int .i64 0, .int .i64 0, .int .i64 0, .int .i64 0, .int .i64 0]) ?_ 0 _ rfl; (with_reducible repeat (first | refine blk_drewN ?_ _ | refine blk_drew ?_ | refine blk_alloc ?_ _)); exact BK404.out⟩, ⟨by repeat (first | (with_reducible first | exact HI394.out | apply IsS96.alloc | apply IsS96.drewN | apply IsS96.drew | apply IsS96.set_1 | refine IsS96.far ?_ NB394_391.out _ | refine IsS96.far ?_ NB394_404.out _) | exact HI394.out)⟩, ⟨by repeat (first | (with_reducible first | exact HB.out | apply below_alloc | apply pw_below_drewN | apply below_drew1 | refine below_set ?_ (IsS96.ge HI394.out) | refine below_set ?_ GE391.out | refine below_set ?_ GE404.out) | exact HB.out)⟩⟩
  case round =>
    clear H'
    try clear p2
    try clear c3
    try clear c7
    try clear c8
    try clear c9
    try clear hcz10_0
    try clear hcz10_1
    try clear hcz10_2
    try clear hcz10_3
    try clear hcz10_4
    try clear hcz10_5
    try clear hcz10_6
    try clear hcz10_7
    try clear hfz10_0
    try clear hfz10_1
    try clear hfz10_2
    try clear hfz10_3
    try clear hfz10_4
    try clear hfz10_5
    try clear hfz10_6
    try clear hfz10_7
    obtain ⟨x6_1, x395001_1, x405000_1, x405001_1, x405002_1, x405003_1, x405004_1, x405005_1, x405006_1, x405007_1, rfl, HA, HK1, BK391, BK404, HI394, HB⟩ := hrel
    cases gk with
    | zero => exact absurd HA.out (by simp [spec_DrawRecBack.l0])
    | succ k1 =>
      have H := HA.out
      clear HA
      simp only [spec_DrawRecBack.l0] at H
      by_cases c11 : x6_1 < 4
      · rw [if_pos c11] at H
        have c11b0 : decide (x6_1 < 4) = true := decide_eq_true c11
        clear c11
        replace H := Option.bind_eq_some_iff.mp H
        obtain ⟨⟨t405, t406⟩, A120, H⟩ := H
        replace H : (if t405 > 0 then (if x405000_1 = 1 then ((spec_l6Rd_pick.f k1 t392 t406 12).bind fun bt407 => ((spec_l6Rd_pick.f k1 t392 bt407.2 24).bind fun bt409 => (some (x405000_1, x405001_1, x405002_1, x405003_1, x405004_1, x405005_1, x405006_1, x405007_1, wrap64 (bt407.1 - (wrap64 ((wrap64 (Int.tdiv bt409.1 23)) * 13))))))) else (if x405000_1 = 2 then ((spec_l6Rd_pick.f k1 t392 t406 12).bind fun bt411 => ((spec_l6Rd_pick.f k1 t392 bt411.2 24).bind fun bt413 => (some (x405000_1, x405001_1, x405002_1, x405003_1, x405004_1, x405005_1, x405006_1, x405007_1, wrap64 (bt411.1 - (wrap64 ((wrap64 (Int.tdiv bt413.1 23)) * 13))))))) else ((spec_l71Rec.f k1 t392 t406).bind fun bt415 => (spec_DrawRecBack.l0 k1 (wrap64 (x6_1 + 1)) t392 bt415.2.2.2.2.2.2.2.2 bt415.1 bt415.2.1 bt415.2.2.1 bt415.2.2.2.1 bt415.2.2.2.2.1 bt415.2.2.2.2.2.1 bt415.2.2.2.2.2.2.1 bt415.2.2.2.2.2.2.2.1)))) else ((spec_l6Rd_pick.f k1 t392 t406 12).bind fun bt424 => ((spec_l6Rd_pick.f k1 t392 bt424.2 24).bind fun bt426 => (some (x405000_1, x405001_1, x405002_1, x405003_1, x405004_1, x405005_1, x405006_1, x405007_1, wrap64 (bt424.1 - (wrap64 ((wrap64 (Int.tdiv bt426.1 23)) * 13)))))))) = some (r1, r2, r3, r4, r5, r6, r7, r8, r9) := H
        have A12 := Aside0.mk A120
        clear A120
        by_cases c13 : t405 > 0
        · rw [if_pos c13] at H
          have c13b0 : decide (0 < t405) = true := decide_eq_true c13
          clear c13
          by_cases c14 : x405000_1 = 1
          · rw [if_pos c14] at H
            have c14b0 : (x405000_1 == 1) = true := beq_iff_eq.mpr c14
            have c14b1 : (x405000_1 != 1) = false := bne_eq_false_iff_eq.mpr c14
            clear c14
            replace H := Option.bind_eq_some_iff.mp H
            obtain ⟨⟨t407, t408⟩, A150, H⟩ := H
            replace H : ((spec_l6Rd_pick.f k1 t392 t408 24).bind fun bt409 => (some (x405000_1, x405001_1, x405002_1, x405003_1, x405004_1, x405005_1, x405006_1, x405007_1, wrap64 (t407 - (wrap64 ((wrap64 (Int.tdiv bt409.1 23)) * 13)))))) = some (r1, r2, r3, r4, r5, r6, r7, r8, r9) := H
            have A15 := Aside0.mk A150
            clear A150
            replace H := Option.bind_eq_some_iff.mp H
            obtain ⟨⟨t409, t410⟩, A160, H⟩ := H
            replace H : (some (x405000_1, x405001_1, x405002_1, x405003_1, x405004_1, x405005_1, x405006_1, x405007_1, wrap64 (t407 - (wrap64 ((wrap64 (Int.tdiv t409 23)) * 13))))) = some (r1, r2, r3, r4, r5, r6, r7, r8, r9) := H
            have A16 := Aside0.mk A160
            clear A160
            simp only [Option.some.injEq, Prod.mk.injEq] at H
            obtain ⟨rfl, rfl, rfl, rfl, rfl, rfl, rfl, rfl, rfl⟩ := H
            try go_wp2_with (first | (go_at_call 77; (with_reducible refine (spec_l6Rd_pick.calls k1 g394 t392 x395001_1 8 t405 t406 w _ ?side1 ?side2 A12.out).mono ?_); (case side1 => repeat (first | (with_reducible first | exact HI394.out | apply IsS96.alloc | apply IsS96.drewN | apply IsS96.drew | apply IsS96.set_1 | refine IsS96.far ?_ NB394_391.out _ | refine IsS96.far ?_ NB394_404.out _) | exact HI394.out)); (case side2 => repeat (first | (with_reducible first | exact HB.out | apply below_alloc | apply pw_below_drewN | apply below_drew1 | refine below_set ?_ (IsS96.ge HI394.out) | refine below_set ?_ GE391.out | refine below_set ?_ GE404.out) | exact HB.out)); rintro e w17 ⟨rfl, hi, hb, hk⟩; have n0_ := Aside0.mk (KeepBut.blk hk (g' := gb391) (o := .cells #[.int .i64 0, .int .i64 0, .int .i64 0, .int .i64 0, .int .i64 0, .int .i64 0, .int .i64 0, .int .i64 0] 41 (0, 0)) (by (with_reducible repeat (first | refine blk_drewN ?_ _ | refine blk_drew ?_ | refine blk_alloc ?_ _)); exact BK391.out) NB391_394.out (by simp)); have n1_ := Aside0.mk (KeepBut.blk hk (g' := gb404) (o := .cells #[.int .i64 x405000_1, .int .i64 x405001_1, .int .i64 x405002_1, .int .i64 x405003_1, .int .i64 x405004_1, .int .i64 x405005_1, .int .i64 x405006_1, .int .i64 x405007_1] 41 (0, 0)) (by (with_reducible repeat (first | refine blk_drewN ?_ _ | refine blk_drew ?_ | refine blk_alloc ?_ _)); exact BK404.out) NB404_394.out (by simp)); have n2_ := Aside0.mk (hb); have n3_ := Aside0.mk (hi); clear BK391; clear BK404; clear HB; clear HI394; have BK391 := n0_; have BK404 := n1_; have HB := n2_; have HI394 := n3_; clear n0_ n1_ n2_ n3_; (try clear hb); (try clear hb2); (try clear hk); (try clear hi); have hnb18 := NB404_391.out; have hnc18 := NB391_404.out; have hnb19 := NB404_394.out; have hnc19 := NB394_404.out; have hcz20_0 : w17.cell? ⟨gb404, 0, none⟩ = some (.int .i64 x405000_1) := (blk_cell BK404.out 0).trans rfl; have hcz20_1 : w17.cell? ⟨gb404, 1, none⟩ = some (.int .i64 x405001_1) := (blk_cell BK404.out 1).trans rfl; have hcz20_2 : w17.cell? ⟨gb404, 2, none⟩ = some (.int .i64 x405002_1) := (blk_cell BK404.out 2).trans rfl; have hcz20_3 : w17.cell? ⟨gb404, 3, none⟩ = some (.int .i64 x405003_1) := (blk_cell BK404.out 3).trans rfl; have hcz20_4 : w17.cell? ⟨gb404, 4, none⟩ = some (.int .i64 x405004_1) := (blk_cell BK404.out 4).trans rfl; have hcz20_5 : w17.cell? ⟨gb404, 5, none⟩ = some (.int .i64 x405005_1) := (blk_cell BK404.out 5).trans rfl; have hcz20_6 : w17.cell? ⟨gb404, 6, none⟩ = some (.int .i64 x405006_1) := (blk_cell BK404.out 6).trans rfl; have hcz20_7 : w17.cell? ⟨gb404, 7, none⟩ = some (.int .i64 x405007_1) := (blk_cell BK404.out 7).trans rfl; have hfz20_0 := blk_frozen BK404.out 0; have hfz20_1 := blk_frozen BK404.out 1; have hfz20_2 := blk_frozen BK404.out 2; have hfz20_3 := blk_frozen BK404.out 3; have hfz20_4 := blk_frozen BK404.out 4; have hfz20_5 := blk_frozen BK404.out 5; have hfz20_6 := blk_frozen BK404.out 6; have hfz20_7 := blk_frozen BK404.out 7))
            have n0_ := Aside0.mk (blk_drew BK391.out)
            have n1_ := Aside0.mk (blk_drew BK404.out)
            have n2_ := Aside0.mk (IsS96.drew HI394.out)
            have n3_ := Aside0.mk (below_drew1 HB.out)
            clear BK391
            clear BK404
            clear HI394
            clear HB
            have BK391 := n0_
            have BK404 := n1_
            have HI394 := n2_
            have HB := n3_
            clear n0_ n1_ n2_ n3_
            refine start_ (n := 10) (S := fun w' => w'.cell? ⟨gb404, 0, none⟩ = some (.int .i64 x405000_1) ∧ w'.cell? ⟨gb404, 1, none⟩ = some (.int .i64 x405001_1) ∧ w'.cell? ⟨gb404, 2, none⟩ = some (.int .i64 x405002_1) ∧ w'.cell? ⟨gb404, 3, none⟩ = some (.int .i64 x405003_1) ∧ w'.cell? ⟨gb404, 4, none⟩ = some (.int .i64 x405004_1) ∧ w'.cell? ⟨gb404, 5, none⟩ = some (.int .i64 x405005_1) ∧ w'.cell? ⟨gb404, 6, none⟩ = some (.int .i64 x405006_1) ∧ w'.cell? ⟨gb404, 7, none⟩ = some (.int .i64 x405007_1)) (ds := []) #[false, false, false, false, false, false, false, false, false, false] (by kernel_rfl) rfl rfl ⟨(blk_cell BK404.out 0).trans rfl, (blk_cell BK404.out 1).trans rfl, (blk_cell BK404.out 2).trans rfl, (blk_cell BK404.out 3).trans rfl, (blk_cell BK404.out 4).trans rfl, (blk_cell BK404.out 5).trans rfl, (blk_cell BK404.out 6).trans rfl, (blk_cell BK404.out 7).trans rfl⟩ (fun hHeld => ?_); refine with_tabW spec_DrawRecBack.tab7 spec_DrawRecBack.bits7 (fun HT_ HW_ => ?_)
            generalize w17.drew = w21 at BK391 BK404 HI394 HB hHeld ⊢
            refine pure_ (i := 1) (N := some 33) (v := ?_) (a' := ?_) #[false, true, false, false, false, false, false, false, false, false] rfl rfl (any_of HT_.out (by kernel_rfl)) (fun _ _ _ h => h) (Or.inl ⟨by rfl, ?_⟩) ?_ ?_
            rotate_left
            · intro w'
              go_simp
              with_reducible rfl
            rotate_left
            · simp only [Act.put, List.setIfInBounds_toArray, List.set_cons_zero, List.set_cons_succ, i64_w, i32_w]
              rfl
            refine pure_ (i := 3) (N := some 35) (v := ?_) (a' := ?_) #[false, true, false, true, false, false, false, false, false, false] rfl rfl (any_of HT_.out (by kernel_rfl)) (fun _ _ _ h => h) (Or.inl ⟨by rfl, ?_⟩) ?_ ?_
            rotate_left
            · intro w'
              go_simp
              with_reducible rfl
            rotate_left
            · simp only [Act.put, List.setIfInBounds_toArray, List.set_cons_zero, List.set_cons_succ, i64_w, i32_w]
              rfl
            refine take_ (i := 0) (N := some 32) (v := ?_) (a' := ?_) #[true, true, false, true, false, false, false, false, false, false] rfl rfl (take_ofW HT_.out HW_.out (by kernel_rfl)) (fun _ _ _ h => h) (Or.inl ⟨by rfl, ?_⟩) hHeld ?_ ?_
            rotate_left
            · rintro w' ⟨s0, s1, s2, s3, s4, s5, s6, s7⟩
              go_simp
              with_reducible rfl
            rotate_left
            · simp only [Act.put, List.setIfInBounds_toArray, List.set_cons_zero, List.set_cons_succ, i64_w, i32_w]
              rfl
            refine one_ (i := 2) (N := some 34) #[true, true, true, true, false, false, false, false, false, false] rfl rfl (one_of HT_.out (by kernel_rfl)) (by decide) (fun K hK => ?_)
            refine goes_ Try.func77 (by kernel_rfl) rfl #[.pointer (some ⟨g394, 0, none⟩), .int .i64 12] (by rfl) rfl rfl (by (try simp only [List.map_toArray, List.map_cons, List.map_nil]); first | done | rfl | (simp only [List.length_drop, List.length_take]; rfl)) ?_
            with_reducible refine (spec_l6Rd_pick.calls k1 g394 t392 t406 12 t407 t408 w _ ?side1 ?side2 A15.out).mono ?_
            (case side1 => repeat (first | (with_reducible first | exact HI394.out | apply IsS96.alloc | apply IsS96.drewN | apply IsS96.drew | apply IsS96.set_1 | refine IsS96.far ?_ NB394_391.out _ | refine IsS96.far ?_ NB394_404.out _) | exact HI394.out))
            (case side2 => repeat (first | (with_reducible first | exact HB.out | apply below_alloc | apply pw_below_drewN | apply below_drew1 | refine below_set ?_ (IsS96.ge HI394.out) | refine below_set ?_ GE391.out | refine below_set ?_ GE404.out) | exact HB.out))
            rintro e w22 ⟨rfl, hi, hb, hk⟩
            refine ⟨_, rfl, ?_⟩
            have n0_ := Aside0.mk (KeepBut.blk hk (g' := gb391) (o := .cells #[.int .i64 0, .int .i64 0, .int .i64 0, .int .i64 0, .int .i64 0, .int .i64 0, .int .i64 0, .int .i64 0] 41 (0, 0)) (by (with_reducible repeat (first | refine blk_drewN ?_ _ | refine blk_drew ?_ | refine blk_alloc ?_ _)); exact BK391.out) NB391_394.out (by simp))
            have n1_ := Aside0.mk (KeepBut.blk hk (g' := gb404) (o := .cells #[.int .i64 x405000_1, .int .i64 x405001_1, .int .i64 x405002_1, .int .i64 x405003_1, .int .i64 x405004_1, .int .i64 x405005_1, .int .i64 x405006_1, .int .i64 x405007_1] 41 (0, 0)) (by (with_reducible repeat (first | refine blk_drewN ?_ _ | refine blk_drew ?_ | refine blk_alloc ?_ _)); exact BK404.out) NB404_394.out (by simp))
            have n2_ := Aside0.mk (hb)
            have n3_ := Aside0.mk (hi)
            clear BK391
            clear BK404
            clear HB
            clear HI394
            have BK391 := n0_
            have BK404 := n1_
            have HB := n2_
            have HI394 := n3_
            clear n0_ n1_ n2_ n3_
            (try clear hb)
            (try clear hb2)
            (try clear hk)
            (try clear hi)
            refine hK.out _ _ ⟨(blk_cell BK404.out 0).trans rfl, (blk_cell BK404.out 1).trans rfl, (blk_cell BK404.out 2).trans rfl, (blk_cell BK404.out 3).trans rfl, (blk_cell BK404.out 4).trans rfl, (blk_cell BK404.out 5).trans rfl, (blk_cell BK404.out 6).trans rfl, (blk_cell BK404.out 7).trans rfl⟩ (fun hHeld => ?_)
            clear hK K
            refine norm_ (a' := ?_) ?_ ?_
            rotate_left
            · show Act.put _ (some 34) _ = _
              simp only [Act.put, List.setIfInBounds_toArray, List.set_cons_zero, List.set_cons_succ, i64_w, i32_w]
              rfl
            refine one_ (i := 4) (N := some 36) #[true, true, true, true, true, false, false, false, false, false] rfl rfl (one_of HT_.out (by kernel_rfl)) (by decide) (fun K hK => ?_)
            refine goes_ Try.func77 (by kernel_rfl) rfl #[.pointer (some ⟨g394, 0, none⟩), .int .i64 24] (by rfl) rfl rfl (by (try simp only [List.map_toArray, List.map_cons, List.map_nil]); first | done | rfl | (simp only [List.length_drop, List.length_take]; rfl)) ?_
            with_reducible refine (spec_l6Rd_pick.calls k1 g394 t392 t408 24 t409 t410 w _ ?side1 ?side2 A16.out).mono ?_
            (case side1 => repeat (first | (with_reducible first | exact HI394.out | apply IsS96.alloc | apply IsS96.drewN | apply IsS96.drew | apply IsS96.set_1 | refine IsS96.far ?_ NB394_391.out _ | refine IsS96.far ?_ NB394_404.out _) | exact HI394.out))
            (case side2 => repeat (first | (with_reducible first | exact HB.out | apply below_alloc | apply pw_below_drewN | apply below_drew1 | refine below_set ?_ (IsS96.ge HI394.out) | refine below_set ?_ GE391.out | refine below_set ?_ GE404.out) | exact HB.out))
            rintro e w23 ⟨rfl, hi, hb, hk⟩
            refine ⟨_, rfl, ?_⟩
            have n0_ := Aside0.mk (KeepBut.blk hk (g' := gb391) (o := .cells #[.int .i64 0, .int .i64 0, .int .i64 0, .int .i64 0, .int .i64 0, .int .i64 0, .int .i64 0, .int .i64 0] 41 (0, 0)) (by (with_reducible repeat (first | refine blk_drewN ?_ _ | refine blk_drew ?_ | refine blk_alloc ?_ _)); exact BK391.out) NB391_394.out (by simp))
            have n1_ := Aside0.mk (KeepBut.blk hk (g' := gb404) (o := .cells #[.int .i64 x405000_1, .int .i64 x405001_1, .int .i64 x405002_1, .int .i64 x405003_1, .int .i64 x405004_1, .int .i64 x405005_1, .int .i64 x405006_1, .int .i64 x405007_1] 41 (0, 0)) (by (with_reducible repeat (first | refine blk_drewN ?_ _ | refine blk_drew ?_ | refine blk_alloc ?_ _)); exact BK404.out) NB404_394.out (by simp))
            have n2_ := Aside0.mk (hb)
            have n3_ := Aside0.mk (hi)
            clear BK391
            clear BK404
            clear HB
            clear HI394
            have BK391 := n0_
            have BK404 := n1_
            have HB := n2_
            have HI394 := n3_
            clear n0_ n1_ n2_ n3_
            (try clear hb)
            (try clear hb2)
            (try clear hk)
            (try clear hi)
            refine hK.out _ _ ⟨(blk_cell BK404.out 0).trans rfl, (blk_cell BK404.out 1).trans rfl, (blk_cell BK404.out 2).trans rfl, (blk_cell BK404.out 3).trans rfl, (blk_cell BK404.out 4).trans rfl, (blk_cell BK404.out 5).trans rfl, (blk_cell BK404.out 6).trans rfl, (blk_cell BK404.out 7).trans rfl⟩ (fun hHeld => ?_)
            clear hK K
            refine norm_ (a' := ?_) ?_ ?_
            rotate_left
            · show Act.put _ (some 36) _ = _
              simp only [Act.put, List.setIfInBounds_toArray, List.set_cons_zero, List.set_cons_succ, i64_w, i32_w]
              rfl
            refine pure_ (i := 5) (N := some 37) (v := ?_) (a' := ?_) #[true, true, true, true, true, true, false, false, false, false] rfl rfl (any_of HT_.out (by kernel_rfl)) (fun _ _ _ h => h) (Or.inl ⟨by rfl, ?_⟩) ?_ ?_
            rotate_left
            · intro w'
              go_simp
              with_reducible rfl
            rotate_left
            · simp only [Act.put, List.setIfInBounds_toArray, List.set_cons_zero, List.set_cons_succ, i64_w, i32_w]
              rfl
            refine pure_ (i := 6) (N := some 38) (v := ?_) (a' := ?_) #[true, true, true, true, true, true, true, false, false, false] rfl rfl (any_of HT_.out (by kernel_rfl)) (fun _ _ _ h => h) (Or.inl ⟨by rfl, ?_⟩) ?_ ?_
            rotate_left
            · intro w'
              go_simp
              with_reducible rfl
            rotate_left
            · simp only [Act.put, List.setIfInBounds_toArray, List.set_cons_zero, List.set_cons_succ, i64_w, i32_w]
              rfl
            refine pure_ (i := 7) (N := some 39) (v := ?_) (a' := ?_) #[true, true, true, true, true, true, true, true, false, false] rfl rfl (any_of HT_.out (by kernel_rfl)) (fun _ _ _ h => h) (Or.inl ⟨by rfl, ?_⟩) ?_ ?_
            rotate_left
            · intro w'
              go_simp
              with_reducible rfl
            rotate_left
            · simp only [Act.put, List.setIfInBounds_toArray, List.set_cons_zero, List.set_cons_succ, i64_w, i32_w]
              rfl
            refine one_ (i := 8) (N := none) #[true, true, true, true, true, true, true, true, true, false] rfl rfl (one_of HT_.out (by kernel_rfl)) (by decide) (fun K hK => ?_)
            have hs24 : w23.cell? ⟨gb391, 0, none⟩ = some (.int .i64 0) := (blk_cell BK391.out 0).trans rfl
            have hfs24 := blk_frozen BK391.out 0
            have hns24_1 := NB404_391.out
            have hms24_1 := NB391_404.out
            have hs25 : w23.cell? ⟨gb391, 1, none⟩ = some (.int .i64 0) := (blk_cell BK391.out 1).trans rfl
            have hfs25 := blk_frozen BK391.out 1
            have hns25_1 := NB404_391.out
            have hms25_1 := NB391_404.out
            have hs26 : w23.cell? ⟨gb391, 2, none⟩ = some (.int .i64 0) := (blk_cell BK391.out 2).trans rfl
            have hfs26 := blk_frozen BK391.out 2
            have hns26_1 := NB404_391.out
            have hms26_1 := NB391_404.out
            have hs27 : w23.cell? ⟨gb391, 3, none⟩ = some (.int .i64 0) := (blk_cell BK391.out 3).trans rfl
            have hfs27 := blk_frozen BK391.out 3
            have hns27_1 := NB404_391.out
            have hms27_1 := NB391_404.out
            have hs28 : w23.cell? ⟨gb391, 4, none⟩ = some (.int .i64 0) := (blk_cell BK391.out 4).trans rfl
            have hfs28 := blk_frozen BK391.out 4
            have hns28_1 := NB404_391.out
            have hms28_1 := NB391_404.out
            have hs29 : w23.cell? ⟨gb391, 5, none⟩ = some (.int .i64 0) := (blk_cell BK391.out 5).trans rfl
            have hfs29 := blk_frozen BK391.out 5
            have hns29_1 := NB404_391.out
            have hms29_1 := NB391_404.out
            have hs30 : w23.cell? ⟨gb391, 6, none⟩ = some (.int .i64 0) := (blk_cell BK391.out 6).trans rfl
            have hfs30 := blk_frozen BK391.out 6
            have hns30_1 := NB404_391.out
            have hms30_1 := NB391_404.out
            have hs31 : w23.cell? ⟨gb391, 7, none⟩ = some (.int .i64 0) := (blk_cell BK391.out 7).trans rfl
            have hfs31 := blk_frozen BK391.out 7
            have hns31_1 := NB404_391.out
            have hms31_1 := NB391_404.out
            refine skip_ (w1 := ?_) (by rfl) rfl ?_ ?_
            rotate_left
            · go_simp
              rfl
            refine hK.out _ _ ⟨((cell_far (p := ⟨gb391, _, none⟩) NB404_391.out _).trans (((cell_far (p := ⟨gb391, _, none⟩) NB404_391.out _).trans (((cell_far (p := ⟨gb391, _, none⟩) NB404_391.out _).trans (((cell_far (p := ⟨gb391, _, none⟩) NB404_391.out _).trans (((cell_far (p := ⟨gb391, _, none⟩) NB404_391.out _).trans (((cell_far (p := ⟨gb391, _, none⟩) NB404_391.out _).trans (((cell_far (p := ⟨gb391, _, none⟩) NB404_391.out _).trans (((cell_far (p := ⟨gb391, _, none⟩) NB404_391.out _).trans (hHeld.1)))))))))))))))), ((cell_far (p := ⟨gb391, _, none⟩) NB404_391.out _).trans (((cell_far (p := ⟨gb391, _, none⟩) NB404_391.out _).trans (((cell_far (p := ⟨gb391, _, none⟩) NB404_391.out _).trans (((cell_far (p := ⟨gb391, _, none⟩) NB404_391.out _).trans (((cell_far (p := ⟨gb391, _, none⟩) NB404_391.out _).trans (((cell_far (p := ⟨gb391, _, none⟩) NB404_391.out _).trans (((cell_far (p := ⟨gb391, _, none⟩) NB404_391.out _).trans (((cell_far (p := ⟨gb391, _, none⟩) NB404_391.out _).trans (hHeld.2.1)))))))))))))))), ((cell_far (p := ⟨gb391, _, none⟩) NB404_391.out _).trans (((cell_far (p := ⟨gb391, _, none⟩) NB404_391.out _).trans (((cell_far (p := ⟨gb391, _, none⟩) NB404_391.out _).trans (((cell_far (p := ⟨gb391, _, none⟩) NB404_391.out _).trans (((cell_far (p := ⟨gb391, _, none⟩) NB404_391.out _).trans (((cell_far (p := ⟨gb391, _, none⟩) NB404_391.out _).trans (((cell_far (p := ⟨gb391, _, none⟩) NB404_391.out _).trans (((cell_far (p := ⟨gb391, _, none⟩) NB404_391.out _).trans (hHeld.2.2.1)))))))))))))))), ((cell_far (p := ⟨gb391, _, none⟩) NB404_391.out _).trans (((cell_far (p := ⟨gb391, _, none⟩) NB404_391.out _).trans (((cell_far (p := ⟨gb391, _, none⟩) NB404_391.out _).trans (((cell_far (p := ⟨gb391, _, none⟩) NB404_391.out _).trans (((cell_far (p := ⟨gb391, _, none⟩) NB404_391.out _).trans (((cell_far (p := ⟨gb391, _, none⟩) NB404_391.out _).trans (((cell_far (p := ⟨gb391, _, none⟩) NB404_391.out _).trans (((cell_far (p := ⟨gb391, _, none⟩) NB404_391.out _).trans (hHeld.2.2.2.1)))))))))))))))), ((cell_far (p := ⟨gb391, _, none⟩) NB404_391.out _).trans (((cell_far (p := ⟨gb391, _, none⟩) NB404_391.out _).trans (((cell_far (p := ⟨gb391, _, none⟩) NB404_391.out _).trans (((cell_far (p := ⟨gb391, _, none⟩) NB404_391.out _).trans (((cell_far (p := ⟨gb391, _, none⟩) NB404_391.out _).trans (((cell_far (p := ⟨gb391, _, none⟩) NB404_391.out _).trans (((cell_far (p := ⟨gb391, _, none⟩) NB404_391.out _).trans (((cell_far (p := ⟨gb391, _, none⟩) NB404_391.out _).trans (hHeld.2.2.2.2.1)))))))))))))))), ((cell_far (p := ⟨gb391, _, none⟩) NB404_391.out _).trans (((cell_far (p := ⟨gb391, _, none⟩) NB404_391.out _).trans (((cell_far (p := ⟨gb391, _, none⟩) NB404_391.out _).trans (((cell_far (p := ⟨gb391, _, none⟩) NB404_391.out _).trans (((cell_far (p := ⟨gb391, _, none⟩) NB404_391.out _).trans (((cell_far (p := ⟨gb391, _, none⟩) NB404_391.out _).trans (((cell_far (p := ⟨gb391, _, none⟩) NB404_391.out _).trans (((cell_far (p := ⟨gb391, _, none⟩) NB404_391.out _).trans (hHeld.2.2.2.2.2.1)))))))))))))))), ((cell_far (p := ⟨gb391, _, none⟩) NB404_391.out _).trans (((cell_far (p := ⟨gb391, _, none⟩) NB404_391.out _).trans (((cell_far (p := ⟨gb391, _, none⟩) NB404_391.out _).trans (((cell_far (p := ⟨gb391, _, none⟩) NB404_391.out _).trans (((cell_far (p := ⟨gb391, _, none⟩) NB404_391.out _).trans (((cell_far (p := ⟨gb391, _, none⟩) NB404_391.out _).trans (((cell_far (p := ⟨gb391, _, none⟩) NB404_391.out _).trans (((cell_far (p := ⟨gb391, _, none⟩) NB404_391.out _).trans (hHeld.2.2.2.2.2.2.1)))))))))))))))), ((cell_far (p := ⟨gb391, _, none⟩) NB404_391.out _).trans (((cell_far (p := ⟨gb391, _, none⟩) NB404_391.out _).trans (((cell_far (p := ⟨gb391, _, none⟩) NB404_391.out _).trans (((cell_far (p := ⟨gb391, _, none⟩) NB404_391.out _).trans (((cell_far (p := ⟨gb391, _, none⟩) NB404_391.out _).trans (((cell_far (p := ⟨gb391, _, none⟩) NB404_391.out _).trans (((cell_far (p := ⟨gb391, _, none⟩) NB404_391.out _).trans (((cell_far (p := ⟨gb391, _, none⟩) NB404_391.out _).trans (hHeld.2.2.2.2.2.2.2))))))))))))))))⟩ (fun hHeld => ?_)
            clear hK K
            refine pure_ (i := 9) (N := some 3) (v := ?_) (a' := ?_) #[true, true, true, true, true, true, true, true, true, true] rfl rfl (any_of HT_.out (by kernel_rfl)) (fun _ _ _ h => h) (Or.inl ⟨by rfl, ?_⟩) ?_ ?_
            rotate_left
            · intro w'
              go_simp
              with_reducible rfl
            rotate_left
            · simp only [Act.put, List.setIfInBounds_toArray, List.set_cons_zero, List.set_cons_succ, i64_w, i32_w]
              rfl
            refine done_ (done_of HT_.out (by kernel_rfl)) ?_
            try go_wp2
            refine bodyPost_ret (results_ct rfl _ _ gb391 41 #[.int .i64 x405000_1, .int .i64 x405001_1, .int .i64 x405002_1, .int .i64 x405003_1, .int .i64 x405004_1, .int .i64 x405005_1, .int .i64 x405006_1, .int .i64 x405007_1] (0, 0) _ rfl (by (with_reducible repeat (first | refine blk_drewN ?_ _ | refine blk_drew ?_ | refine blk_alloc ?_ _)); refine blk_put (cs := #[.int .i64 x405000_1, .int .i64 x405001_1, .int .i64 x405002_1, .int .i64 x405003_1, .int .i64 x405004_1, .int .i64 x405005_1, .int .i64 x405006_1, .int .i64 0]) ?_ 7 _ rfl; (with_reducible repeat (first | refine blk_drewN ?_ _ | refine blk_drew ?_ | refine blk_alloc ?_ _)); refine blk_put (cs := #[.int .i64 x405000_1, .int .i64 x405001_1, .int .i64 x405002_1, .int .i64 x405003_1, .int .i64 x405004_1, .int .i64 x405005_1, .int .i64 0, .int .i64 0]) ?_ 6 _ rfl; (with_reducible repeat (first | refine blk_drewN ?_ _ | refine blk_drew ?_ | refine blk_alloc ?_ _)); refine blk_put (cs := #[.int .i64 x405000_1, .int .i64 x405001_1, .int .i64 x405002_1, .int .i64 x405003_1, .int .i64 x405004_1, .int .i64 0, .int .i64 0, .int .i64 0]) ?_ 5 _ rfl; (with_reducible repeat (first | refine blk_drewN ?_ _ | refine blk_drew ?_ | refine blk_alloc ?_ _)); refine blk_put (cs := #[.int .i64 x405000_1, .int .i64 x405001_1, .int .i64 x405002_1, .int .i64 x405003_1, .int .i64 0, .int .i64 0, .int .i64 0, .int .i64 0]) ?_ 4 _ rfl; (with_reducible repeat (first | refine blk_drewN ?_ _ | refine blk_drew ?_ | refine blk_alloc ?_ _)); refine blk_put (cs := #[.int .i64 x405000_1, .int .i64 x405001_1, .int .i64 x405002_1, .int .i64 0, .int .i64 0, .int .i64 0, .int .i64 0, .int .i64 0]) ?_ 3 _ rfl; (with_reducible repeat (first | refine blk_drewN ?_ _ | refine blk_drew ?_ | refine blk_alloc ?_ _)); refine blk_put (cs := #[.int .i64 x405000_1, .int .i64 x405001_1, .int .i64 0, .int .i64 0, .int .i64 0, .int .i64 0, .int .i64 0, .int .i64 0]) ?_ 2 _ rfl; (with_reducible repeat (first | refine blk_drewN ?_ _ | refine blk_drew ?_ | refine blk_alloc ?_ _)); refine blk_put (cs := #[.int .i64 x405000_1, .int .i64 0, .int .i64 0, .int .i64 0, .int .i64 0, .int .i64 0, .int .i64 0, .int .i64 0]) ?_ 1 _ rfl; (with_reducible repeat (first | refine blk_drewN ?_ _ | refine blk_drew ?_ | refine blk_alloc ?_ _)); refine blk_put (cs := #[.int .i64 0, .int .i64 0, .int .i64 0, .int .i64 0, .int .i64 0, .int .i64 0, .int .i64 0, .int .i64 0]) ?_ 0 _ rfl; (with_reducible repeat (first | refine blk_drewN ?_ _ | refine blk_drew ?_ | refine blk_alloc ?_ _)); exact BK391.out) Try.underlying41 rfl (by kernel_rfl)) rfl ?_
            exact ⟨by first | rfl | (simp [errW_none, errW_some] <;> rfl) | (simp [*, errW_none, errW_some] <;> rfl), by repeat (first | (with_reducible first | exact HB.out | apply below_alloc | apply pw_below_drewN | apply below_drew1 | refine below_set ?_ (IsS96.ge HI394.out) | refine below_set ?_ GE391.out | refine below_set ?_ GE404.out) | exact HB.out)⟩
          · rw [if_neg c14] at H
            have c14b0 : (x405000_1 == 1) = false := beq_eq_false_iff_ne.mpr c14
            have c14b1 : (x405000_1 != 1) = true := bne_iff_ne.mpr c14
            by_cases c32 : x405000_1 = 2
            · rw [if_pos c32] at H
              have c32b0 : (x405000_1 == 2) = true := beq_iff_eq.mpr c32
              have c32b1 : (x405000_1 != 2) = false := bne_eq_false_iff_eq.mpr c32
              clear c32
              replace H := Option.bind_eq_some_iff.mp H
              obtain ⟨⟨t411, t412⟩, A330, H⟩ := H
              replace H : ((spec_l6Rd_pick.f k1 t392 t412 24).bind fun bt413 => (some (x405000_1, x405001_1, x405002_1, x405003_1, x405004_1, x405005_1, x405006_1, x405007_1, wrap64 (t411 - (wrap64 ((wrap64 (Int.tdiv bt413.1 23)) * 13)))))) = some (r1, r2, r3, r4, r5, r6, r7, r8, r9) := H
              have A33 := Aside0.mk A330
              clear A330
              replace H := Option.bind_eq_some_iff.mp H
              obtain ⟨⟨t413, t414⟩, A340, H⟩ := H
              replace H : (some (x405000_1, x405001_1, x405002_1, x405003_1, x405004_1, x405005_1, x405006_1, x405007_1, wrap64 (t411 - (wrap64 ((wrap64 (Int.tdiv t413 23)) * 13))))) = some (r1, r2, r3, r4, r5, r6, r7, r8, r9) := H
              have A34 := Aside0.mk A340
              clear A340
              simp only [Option.some.injEq, Prod.mk.injEq] at H
              obtain ⟨rfl, rfl, rfl, rfl, rfl, rfl, rfl, rfl, rfl⟩ := H
              try go_wp2_with (first | (go_at_call 77; (with_reducible refine (spec_l6Rd_pick.calls k1 g394 t392 x395001_1 8 t405 t406 w _ ?side1 ?side2 A12.out).mono ?_); (case side1 => repeat (first | (with_reducible first | exact HI394.out | apply IsS96.alloc | apply IsS96.drewN | apply IsS96.drew | apply IsS96.set_1 | refine IsS96.far ?_ NB394_391.out _ | refine IsS96.far ?_ NB394_404.out _) | exact HI394.out)); (case side2 => repeat (first | (with_reducible first | exact HB.out | apply below_alloc | apply pw_below_drewN | apply below_drew1 | refine below_set ?_ (IsS96.ge HI394.out) | refine below_set ?_ GE391.out | refine below_set ?_ GE404.out) | exact HB.out)); rintro e w35 ⟨rfl, hi, hb, hk⟩; have n0_ := Aside0.mk (KeepBut.blk hk (g' := gb391) (o := .cells #[.int .i64 0, .int .i64 0, .int .i64 0, .int .i64 0, .int .i64 0, .int .i64 0, .int .i64 0, .int .i64 0] 41 (0, 0)) (by (with_reducible repeat (first | refine blk_drewN ?_ _ | refine blk_drew ?_ | refine blk_alloc ?_ _)); exact BK391.out) NB391_394.out (by simp)); have n1_ := Aside0.mk (KeepBut.blk hk (g' := gb404) (o := .cells #[.int .i64 x405000_1, .int .i64 x405001_1, .int .i64 x405002_1, .int .i64 x405003_1, .int .i64 x405004_1, .int .i64 x405005_1, .int .i64 x405006_1, .int .i64 x405007_1] 41 (0, 0)) (by (with_reducible repeat (first | refine blk_drewN ?_ _ | refine blk_drew ?_ | refine blk_alloc ?_ _)); exact BK404.out) NB404_394.out (by simp)); have n2_ := Aside0.mk (hb); have n3_ := Aside0.mk (hi); clear BK391; clear BK404; clear HB; clear HI394; have BK391 := n0_; have BK404 := n1_; have HB := n2_; have HI394 := n3_; clear n0_ n1_ n2_ n3_; (try clear hb); (try clear hb2); (try clear hk); (try clear hi); have hnb36 := NB404_391.out; have hnc36 := NB391_404.out; have hnb37 := NB404_394.out; have hnc37 := NB394_404.out; have hcz38_0 : w35.cell? ⟨gb404, 0, none⟩ = some (.int .i64 x405000_1) := (blk_cell BK404.out 0).trans rfl; have hcz38_1 : w35.cell? ⟨gb404, 1, none⟩ = some (.int .i64 x405001_1) := (blk_cell BK404.out 1).trans rfl; have hcz38_2 : w35.cell? ⟨gb404, 2, none⟩ = some (.int .i64 x405002_1) := (blk_cell BK404.out 2).trans rfl; have hcz38_3 : w35.cell? ⟨gb404, 3, none⟩ = some (.int .i64 x405003_1) := (blk_cell BK404.out 3).trans rfl; have hcz38_4 : w35.cell? ⟨gb404, 4, none⟩ = some (.int .i64 x405004_1) := (blk_cell BK404.out 4).trans rfl; have hcz38_5 : w35.cell? ⟨gb404, 5, none⟩ = some (.int .i64 x405005_1) := (blk_cell BK404.out 5).trans rfl; have hcz38_6 : w35.cell? ⟨gb404, 6, none⟩ = some (.int .i64 x405006_1) := (blk_cell BK404.out 6).trans rfl; have hcz38_7 : w35.cell? ⟨gb404, 7, none⟩ = some (.int .i64 x405007_1) := (blk_cell BK404.out 7).trans rfl; have hfz38_0 := blk_frozen BK404.out 0; have hfz38_1 := blk_frozen BK404.out 1; have hfz38_2 := blk_frozen BK404.out 2; have hfz38_3 := blk_frozen BK404.out 3; have hfz38_4 := blk_frozen BK404.out 4; have hfz38_5 := blk_frozen BK404.out 5; have hfz38_6 := blk_frozen BK404.out 6; have hfz38_7 := blk_frozen BK404.out 7))
              have n0_ := Aside0.mk (blk_drew BK391.out)
              have n1_ := Aside0.mk (blk_drew BK404.out)
              have n2_ := Aside0.mk (IsS96.drew HI394.out)
              have n3_ := Aside0.mk (below_drew1 HB.out)
              clear BK391
              clear BK404
              clear HI394
              clear HB
              have BK391 := n0_
              have BK404 := n1_
              have HI394 := n2_
              have HB := n3_
              clear n0_ n1_ n2_ n3_
              refine start_ (n := 10) (S := fun w' => w'.cell? ⟨gb404, 0, none⟩ = some (.int .i64 x405000_1) ∧ w'.cell? ⟨gb404, 1, none⟩ = some (.int .i64 x405001_1) ∧ w'.cell? ⟨gb404, 2, none⟩ = some (.int .i64 x405002_1) ∧ w'.cell? ⟨gb404, 3, none⟩ = some (.int .i64 x405003_1) ∧ w'.cell? ⟨gb404, 4, none⟩ = some (.int .i64 x405004_1) ∧ w'.cell? ⟨gb404, 5, none⟩ = some (.int .i64 x405005_1) ∧ w'.cell? ⟨gb404, 6, none⟩ = some (.int .i64 x405006_1) ∧ w'.cell? ⟨gb404, 7, none⟩ = some (.int .i64 x405007_1)) (ds := []) #[false, false, false, false, false, false, false, false, false, false] (by kernel_rfl) rfl rfl ⟨(blk_cell BK404.out 0).trans rfl, (blk_cell BK404.out 1).trans rfl, (blk_cell BK404.out 2).trans rfl, (blk_cell BK404.out 3).trans rfl, (blk_cell BK404.out 4).trans rfl, (blk_cell BK404.out 5).trans rfl, (blk_cell BK404.out 6).trans rfl, (blk_cell BK404.out 7).trans rfl⟩ (fun hHeld => ?_); refine with_tabW spec_DrawRecBack.tab7 spec_DrawRecBack.bits7 (fun HT_ HW_ => ?_)
              generalize w35.drew = w39 at BK391 BK404 HI394 HB hHeld ⊢
              refine pure_ (i := 1) (N := some 33) (v := ?_) (a' := ?_) #[false, true, false, false, false, false, false, false, false, false] rfl rfl (any_of HT_.out (by kernel_rfl)) (fun _ _ _ h => h) (Or.inl ⟨by rfl, ?_⟩) ?_ ?_
              rotate_left
              · intro w'
                go_simp
                with_reducible rfl
              rotate_left
              · simp only [Act.put, List.setIfInBounds_toArray, List.set_cons_zero, List.set_cons_succ, i64_w, i32_w]
                rfl
              refine pure_ (i := 3) (N := some 35) (v := ?_) (a' := ?_) #[false, true, false, true, false, false, false, false, false, false] rfl rfl (any_of HT_.out (by kernel_rfl)) (fun _ _ _ h => h) (Or.inl ⟨by rfl, ?_⟩) ?_ ?_
              rotate_left
              · intro w'
                go_simp
                with_reducible rfl
              rotate_left
              · simp only [Act.put, List.setIfInBounds_toArray, List.set_cons_zero, List.set_cons_succ, i64_w, i32_w]
                rfl
              refine take_ (i := 0) (N := some 32) (v := ?_) (a' := ?_) #[true, true, false, true, false, false, false, false, false, false] rfl rfl (take_ofW HT_.out HW_.out (by kernel_rfl)) (fun _ _ _ h => h) (Or.inl ⟨by rfl, ?_⟩) hHeld ?_ ?_
              rotate_left
              · rintro w' ⟨s0, s1, s2, s3, s4, s5, s6, s7⟩
                go_simp
                with_reducible rfl
              rotate_left
              · simp only [Act.put, List.setIfInBounds_toArray, List.set_cons_zero, List.set_cons_succ, i64_w, i32_w]
                rfl
              refine one_ (i := 2) (N := some 34) #[true, true, true, true, false, false, false, false, false, false] rfl rfl (one_of HT_.out (by kernel_rfl)) (by decide) (fun K hK => ?_)
              refine goes_ Try.func77 (by kernel_rfl) rfl #[.pointer (some ⟨g394, 0, none⟩), .int .i64 12] (by rfl) rfl rfl (by (try simp only [List.map_toArray, List.map_cons, List.map_nil]); first | done | rfl | (simp only [List.length_drop, List.length_take]; rfl)) ?_
              with_reducible refine (spec_l6Rd_pick.calls k1 g394 t392 t406 12 t411 t412 w _ ?side1 ?side2 A33.out).mono ?_
              (case side1 => repeat (first | (with_reducible first | exact HI394.out | apply IsS96.alloc | apply IsS96.drewN | apply IsS96.drew | apply IsS96.set_1 | refine IsS96.far ?_ NB394_391.out _ | refine IsS96.far ?_ NB394_404.out _) | exact HI394.out))
              (case side2 => repeat (first | (with_reducible first | exact HB.out | apply below_alloc | apply pw_below_drewN | apply below_drew1 | refine below_set ?_ (IsS96.ge HI394.out) | refine below_set ?_ GE391.out | refine below_set ?_ GE404.out) | exact HB.out))
              rintro e w40 ⟨rfl, hi, hb, hk⟩
              refine ⟨_, rfl, ?_⟩
              have n0_ := Aside0.mk (KeepBut.blk hk (g' := gb391) (o := .cells #[.int .i64 0, .int .i64 0, .int .i64 0, .int .i64 0, .int .i64 0, .int .i64 0, .int .i64 0, .int .i64 0] 41 (0, 0)) (by (with_reducible repeat (first | refine blk_drewN ?_ _ | refine blk_drew ?_ | refine blk_alloc ?_ _)); exact BK391.out) NB391_394.out (by simp))
              have n1_ := Aside0.mk (KeepBut.blk hk (g' := gb404) (o := .cells #[.int .i64 x405000_1, .int .i64 x405001_1, .int .i64 x405002_1, .int .i64 x405003_1, .int .i64 x405004_1, .int .i64 x405005_1, .int .i64 x405006_1, .int .i64 x405007_1] 41 (0, 0)) (by (with_reducible repeat (first | refine blk_drewN ?_ _ | refine blk_drew ?_ | refine blk_alloc ?_ _)); exact BK404.out) NB404_394.out (by simp))
              have n2_ := Aside0.mk (hb)
              have n3_ := Aside0.mk (hi)
              clear BK391
              clear BK404
              clear HB
              clear HI394
              have BK391 := n0_
              have BK404 := n1_
              have HB := n2_
              have HI394 := n3_
              clear n0_ n1_ n2_ n3_
              (try clear hb)
              (try clear hb2)
              (try clear hk)
              (try clear hi)
              refine hK.out _ _ ⟨(blk_cell BK404.out 0).trans rfl, (blk_cell BK404.out 1).trans rfl, (blk_cell BK404.out 2).trans rfl, (blk_cell BK404.out 3).trans rfl, (blk_cell BK404.out 4).trans rfl, (blk_cell BK404.out 5).trans rfl, (blk_cell BK404.out 6).trans rfl, (blk_cell BK404.out 7).trans rfl⟩ (fun hHeld => ?_)
              clear hK K
              refine norm_ (a' := ?_) ?_ ?_
              rotate_left
              · show Act.put _ (some 34) _ = _
                simp only [Act.put, List.setIfInBounds_toArray, List.set_cons_zero, List.set_cons_succ, i64_w, i32_w]
                rfl
              refine one_ (i := 4) (N := some 36) #[true, true, true, true, true, false, false, false, false, false] rfl rfl (one_of HT_.out (by kernel_rfl)) (by decide) (fun K hK => ?_)
              refine goes_ Try.func77 (by kernel_rfl) rfl #[.pointer (some ⟨g394, 0, none⟩), .int .i64 24] (by rfl) rfl rfl (by (try simp only [List.map_toArray, List.map_cons, List.map_nil]); first | done | rfl | (simp only [List.length_drop, List.length_take]; rfl)) ?_
              with_reducible refine (spec_l6Rd_pick.calls k1 g394 t392 t412 24 t413 t414 w _ ?side1 ?side2 A34.out).mono ?_
              (case side1 => repeat (first | (with_reducible first | exact HI394.out | apply IsS96.alloc | apply IsS96.drewN | apply IsS96.drew | apply IsS96.set_1 | refine IsS96.far ?_ NB394_391.out _ | refine IsS96.far ?_ NB394_404.out _) | exact HI394.out))
              (case side2 => repeat (first | (with_reducible first | exact HB.out | apply below_alloc | apply pw_below_drewN | apply below_drew1 | refine below_set ?_ (IsS96.ge HI394.out) | refine below_set ?_ GE391.out | refine below_set ?_ GE404.out) | exact HB.out))
              rintro e w41 ⟨rfl, hi, hb, hk⟩
              refine ⟨_, rfl, ?_⟩
              have n0_ := Aside0.mk (KeepBut.blk hk (g' := gb391) (o := .cells #[.int .i64 0, .int .i64 0, .int .i64 0, .int .i64 0, .int .i64 0, .int .i64 0, .int .i64 0, .int .i64 0] 41 (0, 0)) (by (with_reducible repeat (first | refine blk_drewN ?_ _ | refine blk_drew ?_ | refine blk_alloc ?_ _)); exact BK391.out) NB391_394.out (by simp))
              have n1_ := Aside0.mk (KeepBut.blk hk (g' := gb404) (o := .cells #[.int .i64 x405000_1, .int .i64 x405001_1, .int .i64 x405002_1, .int .i64 x405003_1, .int .i64 x405004_1, .int .i64 x405005_1, .int .i64 x405006_1, .int .i64 x405007_1] 41 (0, 0)) (by (with_reducible repeat (first | refine blk_drewN ?_ _ | refine blk_drew ?_ | refine blk_alloc ?_ _)); exact BK404.out) NB404_394.out (by simp))
              have n2_ := Aside0.mk (hb)
              have n3_ := Aside0.mk (hi)
              clear BK391
              clear BK404
              clear HB
              clear HI394
              have BK391 := n0_
              have BK404 := n1_
              have HB := n2_
              have HI394 := n3_
              clear n0_ n1_ n2_ n3_
              (try clear hb)
              (try clear hb2)
              (try clear hk)
              (try clear hi)
              refine hK.out _ _ ⟨(blk_cell BK404.out 0).trans rfl, (blk_cell BK404.out 1).trans rfl, (blk_cell BK404.out 2).trans rfl, (blk_cell BK404.out 3).trans rfl, (blk_cell BK404.out 4).trans rfl, (blk_cell BK404.out 5).trans rfl, (blk_cell BK404.out 6).trans rfl, (blk_cell BK404.out 7).trans rfl⟩ (fun hHeld => ?_)
              clear hK K
              refine norm_ (a' := ?_) ?_ ?_
              rotate_left
              · show Act.put _ (some 36) _ = _
                simp only [Act.put, List.setIfInBounds_toArray, List.set_cons_zero, List.set_cons_succ, i64_w, i32_w]
                rfl
              refine pure_ (i := 5) (N := some 37) (v := ?_) (a' := ?_) #[true, true, true, true, true, true, false, false, false, false] rfl rfl (any_of HT_.out (by kernel_rfl)) (fun _ _ _ h => h) (Or.inl ⟨by rfl, ?_⟩) ?_ ?_
              rotate_left
              · intro w'
                go_simp
                with_reducible rfl
              rotate_left
              · simp only [Act.put, List.setIfInBounds_toArray, List.set_cons_zero, List.set_cons_succ, i64_w, i32_w]
                rfl
              refine pure_ (i := 6) (N := some 38) (v := ?_) (a' := ?_) #[true, true, true, true, true, true, true, false, false, false] rfl rfl (any_of HT_.out (by kernel_rfl)) (fun _ _ _ h => h) (Or.inl ⟨by rfl, ?_⟩) ?_ ?_
              rotate_left
              · intro w'
                go_simp
                with_reducible rfl
              rotate_left
              · simp only [Act.put, List.setIfInBounds_toArray, List.set_cons_zero, List.set_cons_succ, i64_w, i32_w]
                rfl
              refine pure_ (i := 7) (N := some 39) (v := ?_) (a' := ?_) #[true, true, true, true, true, true, true, true, false, false] rfl rfl (any_of HT_.out (by kernel_rfl)) (fun _ _ _ h => h) (Or.inl ⟨by rfl, ?_⟩) ?_ ?_
              rotate_left
              · intro w'
                go_simp
                with_reducible rfl
              rotate_left
              · simp only [Act.put, List.setIfInBounds_toArray, List.set_cons_zero, List.set_cons_succ, i64_w, i32_w]
                rfl
              refine one_ (i := 8) (N := none) #[true, true, true, true, true, true, true, true, true, false] rfl rfl (one_of HT_.out (by kernel_rfl)) (by decide) (fun K hK => ?_)
              have hs42 : w41.cell? ⟨gb391, 0, none⟩ = some (.int .i64 0) := (blk_cell BK391.out 0).trans rfl
              have hfs42 := blk_frozen BK391.out 0
              have hns42_1 := NB404_391.out
              have hms42_1 := NB391_404.out
              have hs43 : w41.cell? ⟨gb391, 1, none⟩ = some (.int .i64 0) := (blk_cell BK391.out 1).trans rfl
              have hfs43 := blk_frozen BK391.out 1
              have hns43_1 := NB404_391.out
              have hms43_1 := NB391_404.out
              have hs44 : w41.cell? ⟨gb391, 2, none⟩ = some (.int .i64 0) := (blk_cell BK391.out 2).trans rfl
              have hfs44 := blk_frozen BK391.out 2
              have hns44_1 := NB404_391.out
              have hms44_1 := NB391_404.out
              have hs45 : w41.cell? ⟨gb391, 3, none⟩ = some (.int .i64 0) := (blk_cell BK391.out 3).trans rfl
              have hfs45 := blk_frozen BK391.out 3
              have hns45_1 := NB404_391.out
              have hms45_1 := NB391_404.out
              have hs46 : w41.cell? ⟨gb391, 4, none⟩ = some (.int .i64 0) := (blk_cell BK391.out 4).trans rfl
              have hfs46 := blk_frozen BK391.out 4
              have hns46_1 := NB404_391.out
              have hms46_1 := NB391_404.out
              have hs47 : w41.cell? ⟨gb391, 5, none⟩ = some (.int .i64 0) := (blk_cell BK391.out 5).trans rfl
              have hfs47 := blk_frozen BK391.out 5
              have hns47_1 := NB404_391.out
              have hms47_1 := NB391_404.out
              have hs48 : w41.cell? ⟨gb391, 6, none⟩ = some (.int .i64 0) := (blk_cell BK391.out 6).trans rfl
              have hfs48 := blk_frozen BK391.out 6
              have hns48_1 := NB404_391.out
              have hms48_1 := NB391_404.out
              have hs49 : w41.cell? ⟨gb391, 7, none⟩ = some (.int .i64 0) := (blk_cell BK391.out 7).trans rfl
              have hfs49 := blk_frozen BK391.out 7
              have hns49_1 := NB404_391.out
              have hms49_1 := NB391_404.out
              refine skip_ (w1 := ?_) (by rfl) rfl ?_ ?_
              rotate_left
              · go_simp
                rfl
              refine hK.out _ _ ⟨((cell_far (p := ⟨gb391, _, none⟩) NB404_391.out _).trans (((cell_far (p := ⟨gb391, _, none⟩) NB404_391.out _).trans (((cell_far (p := ⟨gb391, _, none⟩) NB404_391.out _).trans (((cell_far (p := ⟨gb391, _, none⟩) NB404_391.out _).trans (((cell_far (p := ⟨gb391, _, none⟩) NB404_391.out _).trans (((cell_far (p := ⟨gb391, _, none⟩) NB404_391.out _).trans (((cell_far (p := ⟨gb391, _, none⟩) NB404_391.out _).trans (((cell_far (p := ⟨gb391, _, none⟩) NB404_391.out _).trans (hHeld.1)))))))))))))))), ((cell_far (p := ⟨gb391, _, none⟩) NB404_391.out _).trans (((cell_far (p := ⟨gb391, _, none⟩) NB404_391.out _).trans (((cell_far (p := ⟨gb391, _, none⟩) NB404_391.out _).trans (((cell_far (p := ⟨gb391, _, none⟩) NB404_391.out _).trans (((cell_far (p := ⟨gb391, _, none⟩) NB404_391.out _).trans (((cell_far (p := ⟨gb391, _, none⟩) NB404_391.out _).trans (((cell_far (p := ⟨gb391, _, none⟩) NB404_391.out _).trans (((cell_far (p := ⟨gb391, _, none⟩) NB404_391.out _).trans (hHeld.2.1)))))))))))))))), ((cell_far (p := ⟨gb391, _, none⟩) NB404_391.out _).trans (((cell_far (p := ⟨gb391, _, none⟩) NB404_391.out _).trans (((cell_far (p := ⟨gb391, _, none⟩) NB404_391.out _).trans (((cell_far (p := ⟨gb391, _, none⟩) NB404_391.out _).trans (((cell_far (p := ⟨gb391, _, none⟩) NB404_391.out _).trans (((cell_far (p := ⟨gb391, _, none⟩) NB404_391.out _).trans (((cell_far (p := ⟨gb391, _, none⟩) NB404_391.out _).trans (((cell_far (p := ⟨gb391, _, none⟩) NB404_391.out _).trans (hHeld.2.2.1)))))))))))))))), ((cell_far (p := ⟨gb391, _, none⟩) NB404_391.out _).trans (((cell_far (p := ⟨gb391, _, none⟩) NB404_391.out _).trans (((cell_far (p := ⟨gb391, _, none⟩) NB404_391.out _).trans (((cell_far (p := ⟨gb391, _, none⟩) NB404_391.out _).trans (((cell_far (p := ⟨gb391, _, none⟩) NB404_391.out _).trans (((cell_far (p := ⟨gb391, _, none⟩) NB404_391.out _).trans (((cell_far (p := ⟨gb391, _, none⟩) NB404_391.out _).trans (((cell_far (p := ⟨gb391, _, none⟩) NB404_391.out _).trans (hHeld.2.2.2.1)))))))))))))))), ((cell_far (p := ⟨gb391, _, none⟩) NB404_391.out _).trans (((cell_far (p := ⟨gb391, _, none⟩) NB404_391.out _).trans (((cell_far (p := ⟨gb391, _, none⟩) NB404_391.out _).trans (((cell_far (p := ⟨gb391, _, none⟩) NB404_391.out _).trans (((cell_far (p := ⟨gb391, _, none⟩) NB404_391.out _).trans (((cell_far (p := ⟨gb391, _, none⟩) NB404_391.out _).trans (((cell_far (p := ⟨gb391, _, none⟩) NB404_391.out _).trans (((cell_far (p := ⟨gb391, _, none⟩) NB404_391.out _).trans (hHeld.2.2.2.2.1)))))))))))))))), ((cell_far (p := ⟨gb391, _, none⟩) NB404_391.out _).trans (((cell_far (p := ⟨gb391, _, none⟩) NB404_391.out _).trans (((cell_far (p := ⟨gb391, _, none⟩) NB404_391.out _).trans (((cell_far (p := ⟨gb391, _, none⟩) NB404_391.out _).trans (((cell_far (p := ⟨gb391, _, none⟩) NB404_391.out _).trans (((cell_far (p := ⟨gb391, _, none⟩) NB404_391.out _).trans (((cell_far (p := ⟨gb391, _, none⟩) NB404_391.out _).trans (((cell_far (p := ⟨gb391, _, none⟩) NB404_391.out _).trans (hHeld.2.2.2.2.2.1)))))))))))))))), ((cell_far (p := ⟨gb391, _, none⟩) NB404_391.out _).trans (((cell_far (p := ⟨gb391, _, none⟩) NB404_391.out _).trans (((cell_far (p := ⟨gb391, _, none⟩) NB404_391.out _).trans (((cell_far (p := ⟨gb391, _, none⟩) NB404_391.out _).trans (((cell_far (p := ⟨gb391, _, none⟩) NB404_391.out _).trans (((cell_far (p := ⟨gb391, _, none⟩) NB404_391.out _).trans (((cell_far (p := ⟨gb391, _, none⟩) NB404_391.out _).trans (((cell_far (p := ⟨gb391, _, none⟩) NB404_391.out _).trans (hHeld.2.2.2.2.2.2.1)))))))))))))))), ((cell_far (p := ⟨gb391, _, none⟩) NB404_391.out _).trans (((cell_far (p := ⟨gb391, _, none⟩) NB404_391.out _).trans (((cell_far (p := ⟨gb391, _, none⟩) NB404_391.out _).trans (((cell_far (p := ⟨gb391, _, none⟩) NB404_391.out _).trans (((cell_far (p := ⟨gb391, _, none⟩) NB404_391.out _).trans (((cell_far (p := ⟨gb391, _, none⟩) NB404_391.out _).trans (((cell_far (p := ⟨gb391, _, none⟩) NB404_391.out _).trans (((cell_far (p := ⟨gb391, _, none⟩) NB404_391.out _).trans (hHeld.2.2.2.2.2.2.2))))))))))))))))⟩ (fun hHeld => ?_)
              clear hK K
              refine pure_ (i := 9) (N := some 3) (v := ?_) (a' := ?_) #[true, true, true, true, true, true, true, true, true, true] rfl rfl (any_of HT_.out (by kernel_rfl)) (fun _ _ _ h => h) (Or.inl ⟨by rfl, ?_⟩) ?_ ?_
              rotate_left
              · intro w'
                go_simp
                with_reducible rfl
              rotate_left
              · simp only [Act.put, List.setIfInBounds_toArray, List.set_cons_zero, List.set_cons_succ, i64_w, i32_w]
                rfl
              refine done_ (done_of HT_.out (by kernel_rfl)) ?_
              try go_wp2
              refine bodyPost_ret (results_ct rfl _ _ gb391 41 #[.int .i64 x405000_1, .int .i64 x405001_1, .int .i64 x405002_1, .int .i64 x405003_1, .int .i64 x405004_1, .int .i64 x405005_1, .int .i64 x405006_1, .int .i64 x405007_1] (0, 0) _ rfl (by (with_reducible repeat (first | refine blk_drewN ?_ _ | refine blk_drew ?_ | refine blk_alloc ?_ _)); refine blk_put (cs := #[.int .i64 x405000_1, .int .i64 x405001_1, .int .i64 x405002_1, .int .i64 x405003_1, .int .i64 x405004_1, .int .i64 x405005_1, .int .i64 x405006_1, .int .i64 0]) ?_ 7 _ rfl; (with_reducible repeat (first | refine blk_drewN ?_ _ | refine blk_drew ?_ | refine blk_alloc ?_ _)); refine blk_put (cs := #[.int .i64 x405000_1, .int .i64 x405001_1, .int .i64 x405002_1, .int .i64 x405003_1, .int .i64 x405004_1, .int .i64 x405005_1, .int .i64 0, .int .i64 0]) ?_ 6 _ rfl; (with_reducible repeat (first | refine blk_drewN ?_ _ | refine blk_drew ?_ | refine blk_alloc ?_ _)); refine blk_put (cs := #[.int .i64 x405000_1, .int .i64 x405001_1, .int .i64 x405002_1, .int .i64 x405003_1, .int .i64 x405004_1, .int .i64 0, .int .i64 0, .int .i64 0]) ?_ 5 _ rfl; (with_reducible repeat (first | refine blk_drewN ?_ _ | refine blk_drew ?_ | refine blk_alloc ?_ _)); refine blk_put (cs := #[.int .i64 x405000_1, .int .i64 x405001_1, .int .i64 x405002_1, .int .i64 x405003_1, .int .i64 0, .int .i64 0, .int .i64 0, .int .i64 0]) ?_ 4 _ rfl; (with_reducible repeat (first | refine blk_drewN ?_ _ | refine blk_drew ?_ | refine blk_alloc ?_ _)); refine blk_put (cs := #[.int .i64 x405000_1, .int .i64 x405001_1, .int .i64 x405002_1, .int .i64 0, .int .i64 0, .int .i64 0, .int .i64 0, .int .i64 0]) ?_ 3 _ rfl; (with_reducible repeat (first | refine blk_drewN ?_ _ | refine blk_drew ?_ | refine blk_alloc ?_ _)); refine blk_put (cs := #[.int .i64 x405000_1, .int .i64 x405001_1, .int .i64 0, .int .i64 0, .int .i64 0, .int .i64 0, .int .i64 0, .int .i64 0]) ?_ 2 _ rfl; (with_reducible repeat (first | refine blk_drewN ?_ _ | refine blk_drew ?_ | refine blk_alloc ?_ _)); refine blk_put (cs := #[.int .i64 x405000_1, .int .i64 0, .int .i64 0, .int .i64 0, .int .i64 0, .int .i64 0, .int .i64 0, .int .i64 0]) ?_ 1 _ rfl; (with_reducible repeat (first | refine blk_drewN ?_ _ | refine blk_drew ?_ | refine blk_alloc ?_ _)); refine blk_put (cs := #[.int .i64 0, .int .i64 0, .int .i64 0, .int .i64 0, .int .i64 0, .int .i64 0, .int .i64 0, .int .i64 0]) ?_ 0 _ rfl; (with_reducible repeat (first | refine blk_drewN ?_ _ | refine blk_drew ?_ | refine blk_alloc ?_ _)); exact BK391.out) Try.underlying41 rfl (by kernel_rfl)) rfl ?_
              exact ⟨by first | rfl | (simp [errW_none, errW_some] <;> rfl) | (simp [*, errW_none, errW_some] <;> rfl), by repeat (first | (with_reducible first | exact HB.out | apply below_alloc | apply pw_below_drewN | apply below_drew1 | refine below_set ?_ (IsS96.ge HI394.out) | refine below_set ?_ GE391.out | refine below_set ?_ GE404.out) | exact HB.out)⟩
            · rw [if_neg c32] at H
              have c32b0 : (x405000_1 == 2) = false := beq_eq_false_iff_ne.mpr c32
              have c32b1 : (x405000_1 != 2) = true := bne_iff_ne.mpr c32
              replace H := Option.bind_eq_some_iff.mp H
              obtain ⟨⟨t415, t416, t417, t418, t419, t420, t421, t422, t423⟩, A500, H⟩ := H
              replace H : (spec_DrawRecBack.l0 k1 (wrap64 (x6_1 + 1)) t392 t423 t415 t416 t417 t418 t419 t420 t421 t422) = some (r1, r2, r3, r4, r5, r6, r7, r8, r9) := H
              have A50 := Aside0.mk A500
              clear A500
              have H' := Aside0.mk H
              clear H
              go_wp2_with (first | (go_at_call 77; (with_reducible refine (spec_l6Rd_pick.calls k1 g394 t392 x395001_1 8 t405 t406 w _ ?side1 ?side2 A12.out).mono ?_); (case side1 => repeat (first | (with_reducible first | exact HI394.out | apply IsS96.alloc | apply IsS96.drewN | apply IsS96.drew | apply IsS96.set_1 | refine IsS96.far ?_ NB394_391.out _ | refine IsS96.far ?_ NB394_404.out _) | exact HI394.out)); (case side2 => repeat (first | (with_reducible first | exact HB.out | apply below_alloc | apply pw_below_drewN | apply below_drew1 | refine below_set ?_ (IsS96.ge HI394.out) | refine below_set ?_ GE391.out | refine below_set ?_ GE404.out) | exact HB.out)); rintro e w51 ⟨rfl, hi, hb, hk⟩; have n0_ := Aside0.mk (KeepBut.blk hk (g' := gb391) (o := .cells #[.int .i64 0, .int .i64 0, .int .i64 0, .int .i64 0, .int .i64 0, .int .i64 0, .int .i64 0, .int .i64 0] 41 (0, 0)) (by (with_reducible repeat (first | refine blk_drewN ?_ _ | refine blk_drew ?_ | refine blk_alloc ?_ _)); exact BK391.out) NB391_394.out (by simp)); have n1_ := Aside0.mk (KeepBut.blk hk (g' := gb404) (o := .cells #[.int .i64 x405000_1, .int .i64 x405001_1, .int .i64 x405002_1, .int .i64 x405003_1, .int .i64 x405004_1, .int .i64 x405005_1, .int .i64 x405006_1, .int .i64 x405007_1] 41 (0, 0)) (by (with_reducible repeat (first | refine blk_drewN ?_ _ | refine blk_drew ?_ | refine blk_alloc ?_ _)); exact BK404.out) NB404_394.out (by simp)); have n2_ := Aside0.mk (hb); have n3_ := Aside0.mk (hi); clear BK391; clear BK404; clear HB; clear HI394; have BK391 := n0_; have BK404 := n1_; have HB := n2_; have HI394 := n3_; clear n0_ n1_ n2_ n3_; (try clear hb); (try clear hb2); (try clear hk); (try clear hi); have hnb52 := NB404_391.out; have hnc52 := NB391_404.out; have hnb53 := NB404_394.out; have hnc53 := NB394_404.out; have hcz54_0 : w51.cell? ⟨gb404, 0, none⟩ = some (.int .i64 x405000_1) := (blk_cell BK404.out 0).trans rfl; have hcz54_1 : w51.cell? ⟨gb404, 1, none⟩ = some (.int .i64 x405001_1) := (blk_cell BK404.out 1).trans rfl; have hcz54_2 : w51.cell? ⟨gb404, 2, none⟩ = some (.int .i64 x405002_1) := (blk_cell BK404.out 2).trans rfl; have hcz54_3 : w51.cell? ⟨gb404, 3, none⟩ = some (.int .i64 x405003_1) := (blk_cell BK404.out 3).trans rfl; have hcz54_4 : w51.cell? ⟨gb404, 4, none⟩ = some (.int .i64 x405004_1) := (blk_cell BK404.out 4).trans rfl; have hcz54_5 : w51.cell? ⟨gb404, 5, none⟩ = some (.int .i64 x405005_1) := (blk_cell BK404.out 5).trans rfl; have hcz54_6 : w51.cell? ⟨gb404, 6, none⟩ = some (.int .i64 x405006_1) := (blk_cell BK404.out 6).trans rfl; have hcz54_7 : w51.cell? ⟨gb404, 7, none⟩ = some (.int .i64 x405007_1) := (blk_cell BK404.out 7).trans rfl; have hfz54_0 := blk_frozen BK404.out 0; have hfz54_1 := blk_frozen BK404.out 1; have hfz54_2 := blk_frozen BK404.out 2; have hfz54_3 := blk_frozen BK404.out 3; have hfz54_4 := blk_frozen BK404.out 4; have hfz54_5 := blk_frozen BK404.out 5; have hfz54_6 := blk_frozen BK404.out 6; have hfz54_7 := blk_frozen BK404.out 7) | ((with_reducible refine gate_callee (f := 88) rfl ?_); refine goesL_ (some 31) rfl rfl Try.func88 (by kernel_rfl) rfl #[.pointer (some ⟨g394, 0, none⟩)] rfl (by (try simp only [List.map_toArray, List.map_cons, List.map_nil]); first | done | rfl | (simp only [List.length_drop, List.length_take]; rfl)) ?_; (with_reducible refine (spec_l71Rec.calls k1 g394 t392 t406 t415 t416 t417 t418 t419 t420 t421 t422 t423 w _ ?side1 ?side2 A50.out).mono ?_); (case side1 => repeat (first | (with_reducible first | exact HI394.out | apply IsS96.alloc | apply IsS96.drewN | apply IsS96.drew | apply IsS96.set_1 | refine IsS96.far ?_ NB394_391.out _ | refine IsS96.far ?_ NB394_404.out _) | exact HI394.out)); (case side2 => repeat (first | (with_reducible first | exact HB.out | apply below_alloc | apply pw_below_drewN | apply below_drew1 | refine below_set ?_ (IsS96.ge HI394.out) | refine below_set ?_ GE391.out | refine below_set ?_ GE404.out) | exact HB.out)); rintro e w55 ⟨rfl, hi, hb, hk⟩; refine ⟨_, rfl, ?_⟩; have n0_ := Aside0.mk (KeepBut.blk hk (g' := gb391) (o := .cells #[.int .i64 0, .int .i64 0, .int .i64 0, .int .i64 0, .int .i64 0, .int .i64 0, .int .i64 0, .int .i64 0] 41 (0, 0)) (by (with_reducible repeat (first | refine blk_drewN ?_ _ | refine blk_drew ?_ | refine blk_alloc ?_ _)); exact BK391.out) NB391_394.out (by simp)); have n1_ := Aside0.mk (KeepBut.blk hk (g' := gb404) (o := .cells #[.int .i64 x405000_1, .int .i64 x405001_1, .int .i64 x405002_1, .int .i64 x405003_1, .int .i64 x405004_1, .int .i64 x405005_1, .int .i64 x405006_1, .int .i64 x405007_1] 41 (0, 0)) (by (with_reducible repeat (first | refine blk_drewN ?_ _ | refine blk_drew ?_ | refine blk_alloc ?_ _)); exact BK404.out) NB404_394.out (by simp)); have n2_ := Aside0.mk (hb); have n3_ := Aside0.mk (hi); clear BK391; clear BK404; clear HB; clear HI394; have BK391 := n0_; have BK404 := n1_; have HB := n2_; have HI394 := n3_; clear n0_ n1_ n2_ n3_; (try clear hb); (try clear hb2); (try clear hk); (try clear hi); have hcz56_0 : w55.cell? ⟨gb404, 0, none⟩ = some (.int .i64 x405000_1) := (blk_cell BK404.out 0).trans rfl; have hcz56_1 : w55.cell? ⟨gb404, 1, none⟩ = some (.int .i64 x405001_1) := (blk_cell BK404.out 1).trans rfl; have hcz56_2 : w55.cell? ⟨gb404, 2, none⟩ = some (.int .i64 x405002_1) := (blk_cell BK404.out 2).trans rfl; have hcz56_3 : w55.cell? ⟨gb404, 3, none⟩ = some (.int .i64 x405003_1) := (blk_cell BK404.out 3).trans rfl; have hcz56_4 : w55.cell? ⟨gb404, 4, none⟩ = some (.int .i64 x405004_1) := (blk_cell BK404.out 4).trans rfl; have hcz56_5 : w55.cell? ⟨gb404, 5, none⟩ = some (.int .i64 x405005_1) := (blk_cell BK404.out 5).trans rfl; have hcz56_6 : w55.cell? ⟨gb404, 6, none⟩ = some (.int .i64 x405006_1) := (blk_cell BK404.out 6).trans rfl; have hcz56_7 : w55.cell? ⟨gb404, 7, none⟩ = some (.int .i64 x405007_1) := (blk_cell BK404.out 7).trans rfl; have hfz56_0 := blk_frozen BK404.out 0; have hfz56_1 := blk_frozen BK404.out 1; have hfz56_2 := blk_frozen BK404.out 2; have hfz56_3 := blk_frozen BK404.out 3; have hfz56_4 := blk_frozen BK404.out 4; have hfz56_5 := blk_frozen BK404.out 5; have hfz56_6 := blk_frozen BK404.out 6; have hfz56_7 := blk_frozen BK404.out 7))
              go_roundg k1
              case measure => have := HK1.out; omega
              case rel => exact ⟨(wrap64 (x6_1 + 1)), (t423), (t415), (t416), (t417), (t418), (t419), (t420), (t421), (t422), (by first | rfl | (simp; done) | (simp [*]; done)), H', ⟨by have := HK1.out; omega⟩, ⟨by (with_reducible repeat (first | refine blk_drewN ?_ _ | refine blk_drew ?_ | refine blk_alloc ?_ _)); refine blk_far ?_ NB391_404.out _; (with_reducible repeat (first | refine blk_drewN ?_ _ | refine blk_drew ?_ | refine blk_alloc ?_ _)); refine blk_far ?_ NB391_404.out _; (with_reducible repeat (first | refine blk_drewN ?_ _ | refine blk_drew ?_ | refine blk_alloc ?_ _)); refine blk_far ?_ NB391_404.out _; (with_reducible repeat (first | refine blk_drewN ?_ _ | refine blk_drew ?_ | refine blk_alloc ?_ _)); refine blk_far ?_ NB391_404.out _; (with_reducible repeat (first | refine blk_drewN ?_ _ | refine blk_drew ?_ | refine blk_alloc ?_ _)); refine blk_far ?_ NB391_404.out _; (with_reducible repeat (first | refine blk_drewN ?_ _ | refine blk_drew ?_ | refine blk_alloc ?_ _)); refine blk_far ?_ NB391_404.out _; (with_reducible repeat (first | refine blk_drewN ?_ _ | refine blk_drew ?_ | refine blk_alloc ?_ _)); refine blk_far ?_ NB391_404.out _; (with_reducible repeat (first | refine blk_drewN ?_ _ | refine blk_drew ?_ | refine blk_alloc ?_ _)); refine blk_far ?_ NB391_404.out _; (with_reducible repeat (first | refine blk_drewN ?_ _ | refine blk_drew ?_ | refine blk_alloc ?_ _)); exact BK391.out⟩, ⟨by (with_reducible repeat (first | refine blk_drewN ?_ _ | refine blk_drew ?_ | refine blk_alloc ?_ _)); refine blk_put (cs := #[.int .i64 t415, .int .i64 t416, .int .i64 t417, .int .i64 t418, .int .i64 t419, .int .i64 t420, .int .i64 t421, .int .i64 x405007_1]) ?_ 7 _ rfl; (with_reducible repeat (first | refine blk_drewN ?_ _ | refine blk_drew ?_ | refine blk_alloc ?_ _)); refine blk_put (cs := #[.int .i64 t415, .int .i64 t416, .int .i64 t417, .int .i64 t418, .int .i64 t419, .int .i64 t420, .int .i64 x405006_1, .int .i64 x405007_1]) ?_ 6 _ rfl; (with_reducible repeat (first | refine blk_drewN ?_ _ | refine blk_drew ?_ | refine blk_alloc ?_ _)); refine blk_put (cs := #[.int .i64 t415, .int .i64 t416, .int .i64 t417, .int .i64 t418, .int .i64 t419, .int .i64 x405005_1, .int .i64 x405006_1, .int .i64 x405007_1]) ?_ 5 _ rfl; (with_reducible repeat (first | refine blk_drewN ?_ _ | refine blk_drew ?_ | refine blk_alloc ?_ _)); refine blk_put (cs := #[.int .i64 t415, .int .i64 t416, .int .i64 t417, .int .i64 t418, .int .i64 x405004_1, .int .i64 x405005_1, .int .i64 x405006_1, .int .i64 x405007_1]) ?_ 4 _ rfl; (with_reducible repeat (first | refine blk_drewN ?_ _ | refine blk_drew ?_ | refine blk_alloc ?_ _)); refine blk_put (cs := #[.int .i64 t415, .int .i64 t416, .int .i64 t417, .int .i64 x405003_1, .int .i64 x405004_1, .int .i64 x405005_1, .int .i64 x405006_1, .int .i64 x405007_1]) ?_ 3 _ rfl; (with_reducible repeat (first | refine blk_drewN ?_ _ | refine blk_drew ?_ | refine blk_alloc ?_ _)); refine blk_put (cs := #[.int .i64 t415, .int .i64 t416, .int .i64 x405002_1, .int .i64 x405003_1, .int .i64 x405004_1, .int .i64 x405005_1, .int .i64 x405006_1, .int .i64 x405007_1]) ?_ 2 _ rfl; (with_reducible repeat (first | refine blk_drewN ?_ _ | refine blk_drew ?_ | refine blk_alloc ?_ _)); refine blk_put (cs := #[.int .i64 t415, .int .i64 x405001_1, .int .i64 x405002_1, .int .i64 x405003_1, .int .i64 x405004_1, .int .i64 x405005_1, .int .i64 x405006_1, .int .i64 x405007_1]) ?_ 1 _ rfl; (with_reducible repeat (first | refine blk_drewN ?_ _ | refine blk_drew ?_ | refine blk_alloc ?_ _)); refine blk_put (cs := #[.int .i64 x405000_1, .int .i64 x405001_1, .int .i64 x405002_1, .int .i64 x405003_1, .int .i64 x405004_1, .int .i64 x405005_1, .int .i64 x405006_1, .int .i64 x405007_1]) ?_ 0 _ rfl; (with_reducible repeat (first | refine blk_drewN ?_ _ | refine blk_drew ?_ | refine blk_alloc ?_ _)); exact BK404.out⟩, ⟨by repeat (first | (with_reducible first | exact HI394.out | apply IsS96.alloc | apply IsS96.drewN | apply IsS96.drew | apply IsS96.set_1 | refine IsS96.far ?_ NB394_391.out _ | refine IsS96.far ?_ NB394_404.out _) | exact HI394.out)⟩, ⟨by repeat (first | (with_reducible first | exact HB.out | apply below_alloc | apply pw_below_drewN | apply below_drew1 | refine below_set ?_ (IsS96.ge HI394.out) | refine below_set ?_ GE391.out | refine below_set ?_ GE404.out) | exact HB.out)⟩⟩
        · rw [if_neg c13] at H
          have c13b0 : decide (0 < t405) = false := decide_eq_false c13
          clear c13
          replace H := Option.bind_eq_some_iff.mp H
          obtain ⟨⟨t424, t425⟩, A570, H⟩ := H
          replace H : ((spec_l6Rd_pick.f k1 t392 t425 24).bind fun bt426 => (some (x405000_1, x405001_1, x405002_1, x405003_1, x405004_1, x405005_1, x405006_1, x405007_1, wrap64 (t424 - (wrap64 ((wrap64 (Int.tdiv bt426.1 23)) * 13)))))) = some (r1, r2, r3, r4, r5, r6, r7, r8, r9) := H
          have A57 := Aside0.mk A570
          clear A570
          replace H := Option.bind_eq_some_iff.mp H
          obtain ⟨⟨t426, t427⟩, A580, H⟩ := H
          replace H : (some (x405000_1, x405001_1, x405002_1, x405003_1, x405004_1, x405005_1, x405006_1, x405007_1, wrap64 (t424 - (wrap64 ((wrap64 (Int.tdiv t426 23)) * 13))))) = some (r1, r2, r3, r4, r5, r6, r7, r8, r9) := H
          have A58 := Aside0.mk A580
          clear A580
          simp only [Option.some.injEq, Prod.mk.injEq] at H
          obtain ⟨rfl, rfl, rfl, rfl, rfl, rfl, rfl, rfl, rfl⟩ := H
          try go_wp2_with (first | (go_at_call 77; (with_reducible refine (spec_l6Rd_pick.calls k1 g394 t392 x395001_1 8 t405 t406 w _ ?side1 ?side2 A12.out).mono ?_); (case side1 => repeat (first | (with_reducible first | exact HI394.out | apply IsS96.alloc | apply IsS96.drewN | apply IsS96.drew | apply IsS96.set_1 | refine IsS96.far ?_ NB394_391.out _ | refine IsS96.far ?_ NB394_404.out _) | exact HI394.out)); (case side2 => repeat (first | (with_reducible first | exact HB.out | apply below_alloc | apply pw_below_drewN | apply below_drew1 | refine below_set ?_ (IsS96.ge HI394.out) | refine below_set ?_ GE391.out | refine below_set ?_ GE404.out) | exact HB.out)); rintro e w59 ⟨rfl, hi, hb, hk⟩; have n0_ := Aside0.mk (KeepBut.blk hk (g' := gb391) (o := .cells #[.int .i64 0, .int .i64 0, .int .i64 0, .int .i64 0, .int .i64 0, .int .i64 0, .int .i64 0, .int .i64 0] 41 (0, 0)) (by (with_reducible repeat (first | refine blk_drewN ?_ _ | refine blk_drew ?_ | refine blk_alloc ?_ _)); exact BK391.out) NB391_394.out (by simp)); have n1_ := Aside0.mk (KeepBut.blk hk (g' := gb404) (o := .cells #[.int .i64 x405000_1, .int .i64 x405001_1, .int .i64 x405002_1, .int .i64 x405003_1, .int .i64 x405004_1, .int .i64 x405005_1, .int .i64 x405006_1, .int .i64 x405007_1] 41 (0, 0)) (by (with_reducible repeat (first | refine blk_drewN ?_ _ | refine blk_drew ?_ | refine blk_alloc ?_ _)); exact BK404.out) NB404_394.out (by simp)); have n2_ := Aside0.mk (hb); have n3_ := Aside0.mk (hi); clear BK391; clear BK404; clear HB; clear HI394; have BK391 := n0_; have BK404 := n1_; have HB := n2_; have HI394 := n3_; clear n0_ n1_ n2_ n3_; (try clear hb); (try clear hb2); (try clear hk); (try clear hi)))
          have n0_ := Aside0.mk (blk_drew BK391.out)
          have n1_ := Aside0.mk (blk_drew BK404.out)
          have n2_ := Aside0.mk (IsS96.drew HI394.out)
          have n3_ := Aside0.mk (below_drew1 HB.out)
          clear BK391
          clear BK404
          clear HI394
          clear HB
          have BK391 := n0_
          have BK404 := n1_
          have HI394 := n2_
          have HB := n3_
          clear n0_ n1_ n2_ n3_
          refine start_ (n := 10) (S := fun w' => w'.cell? ⟨gb404, 0, none⟩ = some (.int .i64 x405000_1) ∧ w'.cell? ⟨gb404, 1, none⟩ = some (.int .i64 x405001_1) ∧ w'.cell? ⟨gb404, 2, none⟩ = some (.int .i64 x405002_1) ∧ w'.cell? ⟨gb404, 3, none⟩ = some (.int .i64 x405003_1) ∧ w'.cell? ⟨gb404, 4, none⟩ = some (.int .i64 x405004_1) ∧ w'.cell? ⟨gb404, 5, none⟩ = some (.int .i64 x405005_1) ∧ w'.cell? ⟨gb404, 6, none⟩ = some (.int .i64 x405006_1) ∧ w'.cell? ⟨gb404, 7, none⟩ = some (.int .i64 x405007_1)) (ds := []) #[false, false, false, false, false, false, false, false, false, false] (by kernel_rfl) rfl rfl ⟨(blk_cell BK404.out 0).trans rfl, (blk_cell BK404.out 1).trans rfl, (blk_cell BK404.out 2).trans rfl, (blk_cell BK404.out 3).trans rfl, (blk_cell BK404.out 4).trans rfl, (blk_cell BK404.out 5).trans rfl, (blk_cell BK404.out 6).trans rfl, (blk_cell BK404.out 7).trans rfl⟩ (fun hHeld => ?_); refine with_tabW spec_DrawRecBack.tab7 spec_DrawRecBack.bits7 (fun HT_ HW_ => ?_)
          generalize w59.drew = w60 at BK391 BK404 HI394 HB hHeld ⊢
          refine pure_ (i := 1) (N := some 33) (v := ?_) (a' := ?_) #[false, true, false, false, false, false, false, false, false, false] rfl rfl (any_of HT_.out (by kernel_rfl)) (fun _ _ _ h => h) (Or.inl ⟨by rfl, ?_⟩) ?_ ?_
          rotate_left
          · intro w'
            go_simp
            with_reducible rfl
          rotate_left
          · simp only [Act.put, List.setIfInBounds_toArray, List.set_cons_zero, List.set_cons_succ, i64_w, i32_w]
            rfl
          refine pure_ (i := 3) (N := some 35) (v := ?_) (a' := ?_) #[false, true, false, true, false, false, false, false, false, false] rfl rfl (any_of HT_.out (by kernel_rfl)) (fun _ _ _ h => h) (Or.inl ⟨by rfl, ?_⟩) ?_ ?_
          rotate_left
          · intro w'
            go_simp
            with_reducible rfl
          rotate_left
          · simp only [Act.put, List.setIfInBounds_toArray, List.set_cons_zero, List.set_cons_succ, i64_w, i32_w]
            rfl
          refine take_ (i := 0) (N := some 32) (v := ?_) (a' := ?_) #[true, true, false, true, false, false, false, false, false, false] rfl rfl (take_ofW HT_.out HW_.out (by kernel_rfl)) (fun _ _ _ h => h) (Or.inl ⟨by rfl, ?_⟩) hHeld ?_ ?_
          rotate_left
          · rintro w' ⟨s0, s1, s2, s3, s4, s5, s6, s7⟩
            go_simp
            with_reducible rfl
          rotate_left
          · simp only [Act.put, List.setIfInBounds_toArray, List.set_cons_zero, List.set_cons_succ, i64_w, i32_w]
            rfl
          refine one_ (i := 2) (N := some 34) #[true, true, true, true, false, false, false, false, false, false] rfl rfl (one_of HT_.out (by kernel_rfl)) (by decide) (fun K hK => ?_)
          refine goes_ Try.func77 (by kernel_rfl) rfl #[.pointer (some ⟨g394, 0, none⟩), .int .i64 12] (by rfl) rfl rfl (by (try simp only [List.map_toArray, List.map_cons, List.map_nil]); first | done | rfl | (simp only [List.length_drop, List.length_take]; rfl)) ?_
          with_reducible refine (spec_l6Rd_pick.calls k1 g394 t392 t406 12 t424 t425 w _ ?side1 ?side2 A57.out).mono ?_
          (case side1 => repeat (first | (with_reducible first | exact HI394.out | apply IsS96.alloc | apply IsS96.drewN | apply IsS96.drew | apply IsS96.set_1 | refine IsS96.far ?_ NB394_391.out _ | refine IsS96.far ?_ NB394_404.out _) | exact HI394.out))
          (case side2 => repeat (first | (with_reducible first | exact HB.out | apply below_alloc | apply pw_below_drewN | apply below_drew1 | refine below_set ?_ (IsS96.ge HI394.out) | refine below_set ?_ GE391.out | refine below_set ?_ GE404.out) | exact HB.out))
          rintro e w61 ⟨rfl, hi, hb, hk⟩
          refine ⟨_, rfl, ?_⟩
          have n0_ := Aside0.mk (KeepBut.blk hk (g' := gb391) (o := .cells #[.int .i64 0, .int .i64 0, .int .i64 0, .int .i64 0, .int .i64 0, .int .i64 0, .int .i64 0, .int .i64 0] 41 (0, 0)) (by (with_reducible repeat (first | refine blk_drewN ?_ _ | refine blk_drew ?_ | refine blk_alloc ?_ _)); exact BK391.out) NB391_394.out (by simp))
          have n1_ := Aside0.mk (KeepBut.blk hk (g' := gb404) (o := .cells #[.int .i64 x405000_1, .int .i64 x405001_1, .int .i64 x405002_1, .int .i64 x405003_1, .int .i64 x405004_1, .int .i64 x405005_1, .int .i64 x405006_1, .int .i64 x405007_1] 41 (0, 0)) (by (with_reducible repeat (first | refine blk_drewN ?_ _ | refine blk_drew ?_ | refine blk_alloc ?_ _)); exact BK404.out) NB404_394.out (by simp))
          have n2_ := Aside0.mk (hb)
          have n3_ := Aside0.mk (hi)
          clear BK391
          clear BK404
          clear HB
          clear HI394
          have BK391 := n0_
          have BK404 := n1_
          have HB := n2_
          have HI394 := n3_
          clear n0_ n1_ n2_ n3_
          (try clear hb)
          (try clear hb2)
          (try clear hk)
          (try clear hi)
          refine hK.out _ _ ⟨(blk_cell BK404.out 0).trans rfl, (blk_cell BK404.out 1).trans rfl, (blk_cell BK404.out 2).trans rfl, (blk_cell BK404.out 3).trans rfl, (blk_cell BK404.out 4).trans rfl, (blk_cell BK404.out 5).trans rfl, (blk_cell BK404.out 6).trans rfl, (blk_cell BK404.out 7).trans rfl⟩ (fun hHeld => ?_)
          clear hK K
          refine norm_ (a' := ?_) ?_ ?_
          rotate_left
          · show Act.put _ (some 34) _ = _
            simp only [Act.put, List.setIfInBounds_toArray, List.set_cons_zero, List.set_cons_succ, i64_w, i32_w]
            rfl
          refine one_ (i := 4) (N := some 36) #[true, true, true, true, true, false, false, false, false, false] rfl rfl (one_of HT_.out (by kernel_rfl)) (by decide) (fun K hK => ?_)
          refine goes_ Try.func77 (by kernel_rfl) rfl #[.pointer (some ⟨g394, 0, none⟩), .int .i64 24] (by rfl) rfl rfl (by (try simp only [List.map_toArray, List.map_cons, List.map_nil]); first | done | rfl | (simp only [List.length_drop, List.length_take]; rfl)) ?_
          with_reducible refine (spec_l6Rd_pick.calls k1 g394 t392 t425 24 t426 t427 w _ ?side1 ?side2 A58.out).mono ?_
          (case side1 => repeat (first | (with_reducible first | exact HI394.out | apply IsS96.alloc | apply IsS96.drewN | apply IsS96.drew | apply IsS96.set_1 | refine IsS96.far ?_ NB394_391.out _ | refine IsS96.far ?_ NB394_404.out _) | exact HI394.out))
          (case side2 => repeat (first | (with_reducible first | exact HB.out | apply below_alloc | apply pw_below_drewN | apply below_drew1 | refine below_set ?_ (IsS96.ge HI394.out) | refine below_set ?_ GE391.out | refine below_set ?_ GE404.out) | exact HB.out))
          rintro e w62 ⟨rfl, hi, hb, hk⟩
          refine ⟨_, rfl, ?_⟩
          have n0_ := Aside0.mk (KeepBut.blk hk (g' := gb391) (o := .cells #[.int .i64 0, .int .i64 0, .int .i64 0, .int .i64 0, .int .i64 0, .int .i64 0, .int .i64 0, .int .i64 0] 41 (0, 0)) (by (with_reducible repeat (first | refine blk_drewN ?_ _ | refine blk_drew ?_ | refine blk_alloc ?_ _)); exact BK391.out) NB391_394.out (by simp))
          have n1_ := Aside0.mk (KeepBut.blk hk (g' := gb404) (o := .cells #[.int .i64 x405000_1, .int .i64 x405001_1, .int .i64 x405002_1, .int .i64 x405003_1, .int .i64 x405004_1, .int .i64 x405005_1, .int .i64 x405006_1, .int .i64 x405007_1] 41 (0, 0)) (by (with_reducible repeat (first | refine blk_drewN ?_ _ | refine blk_drew ?_ | refine blk_alloc ?_ _)); exact BK404.out) NB404_394.out (by simp))
          have n2_ := Aside0.mk (hb)
          have n3_ := Aside0.mk (hi)
          clear BK391
          clear BK404
          clear HB
          clear HI394
          have BK391 := n0_
          have BK404 := n1_
          have HB := n2_
          have HI394 := n3_
          clear n0_ n1_ n2_ n3_
          (try clear hb)
          (try clear hb2)
          (try clear hk)
          (try clear hi)
          refine hK.out _ _ ⟨(blk_cell BK404.out 0).trans rfl, (blk_cell BK404.out 1).trans rfl, (blk_cell BK404.out 2).trans rfl, (blk_cell BK404.out 3).trans rfl, (blk_cell BK404.out 4).trans rfl, (blk_cell BK404.out 5).trans rfl, (blk_cell BK404.out 6).trans rfl, (blk_cell BK404.out 7).trans rfl⟩ (fun hHeld => ?_)
          clear hK K
          refine norm_ (a' := ?_) ?_ ?_
          rotate_left
          · show Act.put _ (some 36) _ = _
            simp only [Act.put, List.setIfInBounds_toArray, List.set_cons_zero, List.set_cons_succ, i64_w, i32_w]
            rfl
          refine pure_ (i := 5) (N := some 37) (v := ?_) (a' := ?_) #[true, true, true, true, true, true, false, false, false, false] rfl rfl (any_of HT_.out (by kernel_rfl)) (fun _ _ _ h => h) (Or.inl ⟨by rfl, ?_⟩) ?_ ?_
          rotate_left
          · intro w'
            go_simp
            with_reducible rfl
          rotate_left
          · simp only [Act.put, List.setIfInBounds_toArray, List.set_cons_zero, List.set_cons_succ, i64_w, i32_w]
            rfl
          refine pure_ (i := 6) (N := some 38) (v := ?_) (a' := ?_) #[true, true, true, true, true, true, true, false, false, false] rfl rfl (any_of HT_.out (by kernel_rfl)) (fun _ _ _ h => h) (Or.inl ⟨by rfl, ?_⟩) ?_ ?_
          rotate_left
          · intro w'
            go_simp
            with_reducible rfl
          rotate_left
          · simp only [Act.put, List.setIfInBounds_toArray, List.set_cons_zero, List.set_cons_succ, i64_w, i32_w]
            rfl
          refine pure_ (i := 7) (N := some 39) (v := ?_) (a' := ?_) #[true, true, true, true, true, true, true, true, false, false] rfl rfl (any_of HT_.out (by kernel_rfl)) (fun _ _ _ h => h) (Or.inl ⟨by rfl, ?_⟩) ?_ ?_
          rotate_left
          · intro w'
            go_simp
            with_reducible rfl
          rotate_left
          · simp only [Act.put, List.setIfInBounds_toArray, List.set_cons_zero, List.set_cons_succ, i64_w, i32_w]
            rfl
          refine one_ (i := 8) (N := none) #[true, true, true, true, true, true, true, true, true, false] rfl rfl (one_of HT_.out (by kernel_rfl)) (by decide) (fun K hK => ?_)
          have hs63 : w62.cell? ⟨gb391, 0, none⟩ = some (.int .i64 0) := (blk_cell BK391.out 0).trans rfl
          have hfs63 := blk_frozen BK391.out 0
          have hns63_1 := NB404_391.out
          have hms63_1 := NB391_404.out
          have hs64 : w62.cell? ⟨gb391, 1, none⟩ = some (.int .i64 0) := (blk_cell BK391.out 1).trans rfl
          have hfs64 := blk_frozen BK391.out 1
          have hns64_1 := NB404_391.out
          have hms64_1 := NB391_404.out
          have hs65 : w62.cell? ⟨gb391, 2, none⟩ = some (.int .i64 0) := (blk_cell BK391.out 2).trans rfl
          have hfs65 := blk_frozen BK391.out 2
          have hns65_1 := NB404_391.out
          have hms65_1 := NB391_404.out
          have hs66 : w62.cell? ⟨gb391, 3, none⟩ = some (.int .i64 0) := (blk_cell BK391.out 3).trans rfl
          have hfs66 := blk_frozen BK391.out 3
          have hns66_1 := NB404_391.out
          have hms66_1 := NB391_404.out
          have hs67 : w62.cell? ⟨gb391, 4, none⟩ = some (.int .i64 0) := (blk_cell BK391.out 4).trans rfl
          have hfs67 := blk_frozen BK391.out 4
          have hns67_1 := NB404_391.out
          have hms67_1 := NB391_404.out
          have hs68 : w62.cell? ⟨gb391, 5, none⟩ = some (.int .i64 0) := (blk_cell BK391.out 5).trans rfl
          have hfs68 := blk_frozen BK391.out 5
          have hns68_1 := NB404_391.out
          have hms68_1 := NB391_404.out
          have hs69 : w62.cell? ⟨gb391, 6, none⟩ = some (.int .i64 0) := (blk_cell BK391.out 6).trans rfl
          have hfs69 := blk_frozen BK391.out 6
          have hns69_1 := NB404_391.out
          have hms69_1 := NB391_404.out
          have hs70 : w62.cell? ⟨gb391, 7, none⟩ = some (.int .i64 0) := (blk_cell BK391.out 7).trans rfl
          have hfs70 := blk_frozen BK391.out 7
          have hns70_1 := NB404_391.out
          have hms70_1 := NB391_404.out
          refine skip_ (w1 := ?_) (by rfl) rfl ?_ ?_
          rotate_left
          · go_simp
            rfl
          refine hK.out _ _ ⟨((cell_far (p := ⟨gb391, _, none⟩) NB404_391.out _).trans (((cell_far (p := ⟨gb391, _, none⟩) NB404_391.out _).trans (((cell_far (p := ⟨gb391, _, none⟩) NB404_391.out _).trans (((cell_far (p := ⟨gb391, _, none⟩) NB404_391.out _).trans (((cell_far (p := ⟨gb391, _, none⟩) NB404_391.out _).trans (((cell_far (p := ⟨gb391, _, none⟩) NB404_391.out _).trans (((cell_far (p := ⟨gb391, _, none⟩) NB404_391.out _).trans (((cell_far (p := ⟨gb391, _, none⟩) NB404_391.out _).trans (hHeld.1)))))))))))))))), ((cell_far (p := ⟨gb391, _, none⟩) NB404_391.out _).trans (((cell_far (p := ⟨gb391, _, none⟩) NB404_391.out _).trans (((cell_far (p := ⟨gb391, _, none⟩) NB404_391.out _).trans (((cell_far (p := ⟨gb391, _, none⟩) NB404_391.out _).trans (((cell_far (p := ⟨gb391, _, none⟩) NB404_391.out _).trans (((cell_far (p := ⟨gb391, _, none⟩) NB404_391.out _).trans (((cell_far (p := ⟨gb391, _, none⟩) NB404_391.out _).trans (((cell_far (p := ⟨gb391, _, none⟩) NB404_391.out _).trans (hHeld.2.1)))))))))))))))), ((cell_far (p := ⟨gb391, _, none⟩) NB404_391.out _).trans (((cell_far (p := ⟨gb391, _, none⟩) NB404_391.out _).trans (((cell_far (p := ⟨gb391, _, none⟩) NB404_391.out _).trans (((cell_far (p := ⟨gb391, _, none⟩) NB404_391.out _).trans (((cell_far (p := ⟨gb391, _, none⟩) NB404_391.out _).trans (((cell_far (p := ⟨gb391, _, none⟩) NB404_391.out _).trans (((cell_far (p := ⟨gb391, _, none⟩) NB404_391.out _).trans (((cell_far (p := ⟨gb391, _, none⟩) NB404_391.out _).trans (hHeld.2.2.1)))))))))))))))), ((cell_far (p := ⟨gb391, _, none⟩) NB404_391.out _).trans (((cell_far (p := ⟨gb391, _, none⟩) NB404_391.out _).trans (((cell_far (p := ⟨gb391, _, none⟩) NB404_391.out _).trans (((cell_far (p := ⟨gb391, _, none⟩) NB404_391.out _).trans (((cell_far (p := ⟨gb391, _, none⟩) NB404_391.out _).trans (((cell_far (p := ⟨gb391, _, none⟩) NB404_391.out _).trans (((cell_far (p := ⟨gb391, _, none⟩) NB404_391.out _).trans (((cell_far (p := ⟨gb391, _, none⟩) NB404_391.out _).trans (hHeld.2.2.2.1)))))))))))))))), ((cell_far (p := ⟨gb391, _, none⟩) NB404_391.out _).trans (((cell_far (p := ⟨gb391, _, none⟩) NB404_391.out _).trans (((cell_far (p := ⟨gb391, _, none⟩) NB404_391.out _).trans (((cell_far (p := ⟨gb391, _, none⟩) NB404_391.out _).trans (((cell_far (p := ⟨gb391, _, none⟩) NB404_391.out _).trans (((cell_far (p := ⟨gb391, _, none⟩) NB404_391.out _).trans (((cell_far (p := ⟨gb391, _, none⟩) NB404_391.out _).trans (((cell_far (p := ⟨gb391, _, none⟩) NB404_391.out _).trans (hHeld.2.2.2.2.1)))))))))))))))), ((cell_far (p := ⟨gb391, _, none⟩) NB404_391.out _).trans (((cell_far (p := ⟨gb391, _, none⟩) NB404_391.out _).trans (((cell_far (p := ⟨gb391, _, none⟩) NB404_391.out _).trans (((cell_far (p := ⟨gb391, _, none⟩) NB404_391.out _).trans (((cell_far (p := ⟨gb391, _, none⟩) NB404_391.out _).trans (((cell_far (p := ⟨gb391, _, none⟩) NB404_391.out _).trans (((cell_far (p := ⟨gb391, _, none⟩) NB404_391.out _).trans (((cell_far (p := ⟨gb391, _, none⟩) NB404_391.out _).trans (hHeld.2.2.2.2.2.1)))))))))))))))), ((cell_far (p := ⟨gb391, _, none⟩) NB404_391.out _).trans (((cell_far (p := ⟨gb391, _, none⟩) NB404_391.out _).trans (((cell_far (p := ⟨gb391, _, none⟩) NB404_391.out _).trans (((cell_far (p := ⟨gb391, _, none⟩) NB404_391.out _).trans (((cell_far (p := ⟨gb391, _, none⟩) NB404_391.out _).trans (((cell_far (p := ⟨gb391, _, none⟩) NB404_391.out _).trans (((cell_far (p := ⟨gb391, _, none⟩) NB404_391.out _).trans (((cell_far (p := ⟨gb391, _, none⟩) NB404_391.out _).trans (hHeld.2.2.2.2.2.2.1)))))))))))))))), ((cell_far (p := ⟨gb391, _, none⟩) NB404_391.out _).trans (((cell_far (p := ⟨gb391, _, none⟩) NB404_391.out _).trans (((cell_far (p := ⟨gb391, _, none⟩) NB404_391.out _).trans (((cell_far (p := ⟨gb391, _, none⟩) NB404_391.out _).trans (((cell_far (p := ⟨gb391, _, none⟩) NB404_391.out _).trans (((cell_far (p := ⟨gb391, _, none⟩) NB404_391.out _).trans (((cell_far (p := ⟨gb391, _, none⟩) NB404_391.out _).trans (((cell_far (p := ⟨gb391, _, none⟩) NB404_391.out _).trans (hHeld.2.2.2.2.2.2.2))))))))))))))))⟩ (fun hHeld => ?_)
          clear hK K
          refine pure_ (i := 9) (N := some 3) (v := ?_) (a' := ?_) #[true, true, true, true, true, true, true, true, true, true] rfl rfl (any_of HT_.out (by kernel_rfl)) (fun _ _ _ h => h) (Or.inl ⟨by rfl, ?_⟩) ?_ ?_
          rotate_left
          · intro w'
            go_simp
            with_reducible rfl
          rotate_left
          · simp only [Act.put, List.setIfInBounds_toArray, List.set_cons_zero, List.set_cons_succ, i64_w, i32_w]
            rfl
          refine done_ (done_of HT_.out (by kernel_rfl)) ?_
          try go_wp2
          refine bodyPost_ret (results_ct rfl _ _ gb391 41 #[.int .i64 x405000_1, .int .i64 x405001_1, .int .i64 x405002_1, .int .i64 x405003_1, .int .i64 x405004_1, .int .i64 x405005_1, .int .i64 x405006_1, .int .i64 x405007_1] (0, 0) _ rfl (by (with_reducible repeat (first | refine blk_drewN ?_ _ | refine blk_drew ?_ | refine blk_alloc ?_ _)); refine blk_put (cs := #[.int .i64 x405000_1, .int .i64 x405001_1, .int .i64 x405002_1, .int .i64 x405003_1, .int .i64 x405004_1, .int .i64 x405005_1, .int .i64 x405006_1, .int .i64 0]) ?_ 7 _ rfl; (with_reducible repeat (first | refine blk_drewN ?_ _ | refine blk_drew ?_ | refine blk_alloc ?_ _)); refine blk_put (cs := #[.int .i64 x405000_1, .int .i64 x405001_1, .int .i64 x405002_1, .int .i64 x405003_1, .int .i64 x405004_1, .int .i64 x405005_1, .int .i64 0, .int .i64 0]) ?_ 6 _ rfl; (with_reducible repeat (first | refine blk_drewN ?_ _ | refine blk_drew ?_ | refine blk_alloc ?_ _)); refine blk_put (cs := #[.int .i64 x405000_1, .int .i64 x405001_1, .int .i64 x405002_1, .int .i64 x405003_1, .int .i64 x405004_1, .int .i64 0, .int .i64 0, .int .i64 0]) ?_ 5 _ rfl; (with_reducible repeat (first | refine blk_drewN ?_ _ | refine blk_drew ?_ | refine blk_alloc ?_ _)); refine blk_put (cs := #[.int .i64 x405000_1, .int .i64 x405001_1, .int .i64 x405002_1, .int .i64 x405003_1, .int .i64 0, .int .i64 0, .int .i64 0, .int .i64 0]) ?_ 4 _ rfl; (with_reducible repeat (first | refine blk_drewN ?_ _ | refine blk_drew ?_ | refine blk_alloc ?_ _)); refine blk_put (cs := #[.int .i64 x405000_1, .int .i64 x405001_1, .int .i64 x405002_1, .int .i64 0, .int .i64 0, .int .i64 0, .int .i64 0, .int .i64 0]) ?_ 3 _ rfl; (with_reducible repeat (first | refine blk_drewN ?_ _ | refine blk_drew ?_ | refine blk_alloc ?_ _)); refine blk_put (cs := #[.int .i64 x405000_1, .int .i64 x405001_1, .int .i64 0, .int .i64 0, .int .i64 0, .int .i64 0, .int .i64 0, .int .i64 0]) ?_ 2 _ rfl; (with_reducible repeat (first | refine blk_drewN ?_ _ | refine blk_drew ?_ | refine blk_alloc ?_ _)); refine blk_put (cs := #[.int .i64 x405000_1, .int .i64 0, .int .i64 0, .int .i64 0, .int .i64 0, .int .i64 0, .int .i64 0, .int .i64 0]) ?_ 1 _ rfl; (with_reducible repeat (first | refine blk_drewN ?_ _ | refine blk_drew ?_ | refine blk_alloc ?_ _)); refine blk_put (cs := #[.int .i64 0, .int .i64 0, .int .i64 0, .int .i64 0, .int .i64 0, .int .i64 0, .int .i64 0, .int .i64 0]) ?_ 0 _ rfl; (with_reducible repeat (first | refine blk_drewN ?_ _ | refine blk_drew ?_ | refine blk_alloc ?_ _)); exact BK391.out) Try.underlying41 rfl (by kernel_rfl)) rfl ?_
          exact ⟨by first | rfl | (simp [errW_none, errW_some] <;> rfl) | (simp [*, errW_none, errW_some] <;> rfl), by repeat (first | (with_reducible first | exact HB.out | apply below_alloc | apply pw_below_drewN | apply below_drew1 | refine below_set ?_ (IsS96.ge HI394.out) | refine below_set ?_ GE391.out | refine below_set ?_ GE404.out) | exact HB.out)⟩
      · rw [if_neg c11] at H
        have c11b0 : decide (x6_1 < 4) = false := decide_eq_false c11
        clear c11
        replace H := Option.bind_eq_some_iff.mp H
        obtain ⟨⟨t428, t429⟩, A710, H⟩ := H
        replace H : ((spec_l6Rd_pick.f k1 t392 t429 24).bind fun bt430 => (some (x405000_1, x405001_1, x405002_1, x405003_1, x405004_1, x405005_1, x405006_1, x405007_1, wrap64 (t428 - (wrap64 ((wrap64 (Int.tdiv bt430.1 23)) * 13)))))) = some (r1, r2, r3, r4, r5, r6, r7, r8, r9) := H
        have A71 := Aside0.mk A710
        clear A710
        replace H := Option.bind_eq_some_iff.mp H
        obtain ⟨⟨t430, t431⟩, A720, H⟩ := H
        replace H : (some (x405000_1, x405001_1, x405002_1, x405003_1, x405004_1, x405005_1, x405006_1, x405007_1, wrap64 (t428 - (wrap64 ((wrap64 (Int.tdiv t430 23)) * 13))))) = some (r1, r2, r3, r4, r5, r6, r7, r8, r9) := H
        have A72 := Aside0.mk A720
        clear A720
        simp only [Option.some.injEq, Prod.mk.injEq] at H
        obtain ⟨rfl, rfl, rfl, rfl, rfl, rfl, rfl, rfl, rfl⟩ := H
        try go_wp2
        have n0_ := Aside0.mk (blk_drew BK391.out)
        have n1_ := Aside0.mk (blk_drew BK404.out)
        have n2_ := Aside0.mk (IsS96.drew HI394.out)
        have n3_ := Aside0.mk (below_drew1 HB.out)
        clear BK391
        clear BK404
        clear HI394
        clear HB
        have BK391 := n0_
        have BK404 := n1_
        have HI394 := n2_
        have HB := n3_
        clear n0_ n1_ n2_ n3_
        refine start_ (n := 10) (S := fun w' => w'.cell? ⟨gb404, 0, none⟩ = some (.int .i64 x405000_1) ∧ w'.cell? ⟨gb404, 1, none⟩ = some (.int .i64 x405001_1) ∧ w'.cell? ⟨gb404, 2, none⟩ = some (.int .i64 x405002_1) ∧ w'.cell? ⟨gb404, 3, none⟩ = some (.int .i64 x405003_1) ∧ w'.cell? ⟨gb404, 4, none⟩ = some (.int .i64 x405004_1) ∧ w'.cell? ⟨gb404, 5, none⟩ = some (.int .i64 x405005_1) ∧ w'.cell? ⟨gb404, 6, none⟩ = some (.int .i64 x405006_1) ∧ w'.cell? ⟨gb404, 7, none⟩ = some (.int .i64 x405007_1)) (ds := []) #[false, false, false, false, false, false, false, false, false, false] (by kernel_rfl) rfl rfl ⟨(blk_cell BK404.out 0).trans rfl, (blk_cell BK404.out 1).trans rfl, (blk_cell BK404.out 2).trans rfl, (blk_cell BK404.out 3).trans rfl, (blk_cell BK404.out 4).trans rfl, (blk_cell BK404.out 5).trans rfl, (blk_cell BK404.out 6).trans rfl, (blk_cell BK404.out 7).trans rfl⟩ (fun hHeld => ?_); refine with_tabW spec_DrawRecBack.tab7 spec_DrawRecBack.bits7 (fun HT_ HW_ => ?_)
        generalize wr.drew = w73 at BK391 BK404 HI394 HB hHeld ⊢
        refine pure_ (i := 1) (N := some 33) (v := ?_) (a' := ?_) #[false, true, false, false, false, false, false, false, false, false] rfl rfl (any_of HT_.out (by kernel_rfl)) (fun _ _ _ h => h) (Or.inl ⟨by rfl, ?_⟩) ?_ ?_
        rotate_left
        · intro w'
          go_simp
          with_reducible rfl
        rotate_left
        · simp only [Act.put, List.setIfInBounds_toArray, List.set_cons_zero, List.set_cons_succ, i64_w, i32_w]
          rfl
        refine pure_ (i := 3) (N := some 35) (v := ?_) (a' := ?_) #[false, true, false, true, false, false, false, false, false, false] rfl rfl (any_of HT_.out (by kernel_rfl)) (fun _ _ _ h => h) (Or.inl ⟨by rfl, ?_⟩) ?_ ?_
        rotate_left
        · intro w'
          go_simp
          with_reducible rfl
        rotate_left
        · simp only [Act.put, List.setIfInBounds_toArray, List.set_cons_zero, List.set_cons_succ, i64_w, i32_w]
          rfl
        refine take_ (i := 0) (N := some 32) (v := ?_) (a' := ?_) #[true, true, false, true, false, false, false, false, false, false] rfl rfl (take_ofW HT_.out HW_.out (by kernel_rfl)) (fun _ _ _ h => h) (Or.inl ⟨by rfl, ?_⟩) hHeld ?_ ?_
        rotate_left
        · rintro w' ⟨s0, s1, s2, s3, s4, s5, s6, s7⟩
          go_simp
          with_reducible rfl
        rotate_left
        · simp only [Act.put, List.setIfInBounds_toArray, List.set_cons_zero, List.set_cons_succ, i64_w, i32_w]
          rfl
        refine one_ (i := 2) (N := some 34) #[true, true, true, true, false, false, false, false, false, false] rfl rfl (one_of HT_.out (by kernel_rfl)) (by decide) (fun K hK => ?_)
        refine goes_ Try.func77 (by kernel_rfl) rfl #[.pointer (some ⟨g394, 0, none⟩), .int .i64 12] (by rfl) rfl rfl (by (try simp only [List.map_toArray, List.map_cons, List.map_nil]); first | done | rfl | (simp only [List.length_drop, List.length_take]; rfl)) ?_
        with_reducible refine (spec_l6Rd_pick.calls k1 g394 t392 x395001_1 12 t428 t429 w _ ?side1 ?side2 A71.out).mono ?_
        (case side1 => repeat (first | (with_reducible first | exact HI394.out | apply IsS96.alloc | apply IsS96.drewN | apply IsS96.drew | apply IsS96.set_1 | refine IsS96.far ?_ NB394_391.out _ | refine IsS96.far ?_ NB394_404.out _) | exact HI394.out))
        (case side2 => repeat (first | (with_reducible first | exact HB.out | apply below_alloc | apply pw_below_drewN | apply below_drew1 | refine below_set ?_ (IsS96.ge HI394.out) | refine below_set ?_ GE391.out | refine below_set ?_ GE404.out) | exact HB.out))
        rintro e w74 ⟨rfl, hi, hb, hk⟩
        refine ⟨_, rfl, ?_⟩
        have n0_ := Aside0.mk (KeepBut.blk hk (g' := gb391) (o := .cells #[.int .i64 0, .int .i64 0, .int .i64 0, .int .i64 0, .int .i64 0, .int .i64 0, .int .i64 0, .int .i64 0] 41 (0, 0)) (by (with_reducible repeat (first | refine blk_drewN ?_ _ | refine blk_drew ?_ | refine blk_alloc ?_ _)); exact BK391.out) NB391_394.out (by simp))
        have n1_ := Aside0.mk (KeepBut.blk hk (g' := gb404) (o := .cells #[.int .i64 x405000_1, .int .i64 x405001_1, .int .i64 x405002_1, .int .i64 x405003_1, .int .i64 x405004_1, .int .i64 x405005_1, .int .i64 x405006_1, .int .i64 x405007_1] 41 (0, 0)) (by (with_reducible repeat (first | refine blk_drewN ?_ _ | refine blk_drew ?_ | refine blk_alloc ?_ _)); exact BK404.out) NB404_394.out (by simp))
        have n2_ := Aside0.mk (hb)
        have n3_ := Aside0.mk (hi)
        clear BK391
        clear BK404
        clear HB
        clear HI394
        have BK391 := n0_
        have BK404 := n1_
        have HB := n2_
        have HI394 := n3_
        clear n0_ n1_ n2_ n3_
        (try clear hb)
        (try clear hb2)
        (try clear hk)
        (try clear hi)
        refine hK.out _ _ ⟨(blk_cell BK404.out 0).trans rfl, (blk_cell BK404.out 1).trans rfl, (blk_cell BK404.out 2).trans rfl, (blk_cell BK404.out 3).trans rfl, (blk_cell BK404.out 4).trans rfl, (blk_cell BK404.out 5).trans rfl, (blk_cell BK404.out 6).trans rfl, (blk_cell BK404.out 7).trans rfl⟩ (fun hHeld => ?_)
        clear hK K
        refine norm_ (a' := ?_) ?_ ?_
        rotate_left
        · show Act.put _ (some 34) _ = _
          simp only [Act.put, List.setIfInBounds_toArray, List.set_cons_zero, List.set_cons_succ, i64_w, i32_w]
          rfl
        refine one_ (i := 4) (N := some 36) #[true, true, true, true, true, false, false, false, false, false] rfl rfl (one_of HT_.out (by kernel_rfl)) (by decide) (fun K hK => ?_)
        refine goes_ Try.func77 (by kernel_rfl) rfl #[.pointer (some ⟨g394, 0, none⟩), .int .i64 24] (by rfl) rfl rfl (by (try simp only [List.map_toArray, List.map_cons, List.map_nil]); first | done | rfl | (simp only [List.length_drop, List.length_take]; rfl)) ?_
        with_reducible refine (spec_l6Rd_pick.calls k1 g394 t392 t429 24 t430 t431 w _ ?side1 ?side2 A72.out).mono ?_
        (case side1 => repeat (first | (with_reducible first | exact HI394.out | apply IsS96.alloc | apply IsS96.drewN | apply IsS96.drew | apply IsS96.set_1 | refine IsS96.far ?_ NB394_391.out _ | refine IsS96.far ?_ NB394_404.out _) | exact HI394.out))
        (case side2 => repeat (first | (with_reducible first | exact HB.out | apply below_alloc | apply pw_below_drewN | apply below_drew1 | refine below_set ?_ (IsS96.ge HI394.out) | refine below_set ?_ GE391.out | refine below_set ?_ GE404.out) | exact HB.out))
        rintro e w75 ⟨rfl, hi, hb, hk⟩
        refine ⟨_, rfl, ?_⟩
        have n0_ := Aside0.mk (KeepBut.blk hk (g' := gb391) (o := .cells #[.int .i64 0, .int .i64 0, .int .i64 0, .int .i64 0, .int .i64 0, .int .i64 0, .int .i64 0, .int .i64 0] 41 (0, 0)) (by (with_reducible repeat (first | refine blk_drewN ?_ _ | refine blk_drew ?_ | refine blk_alloc ?_ _)); exact BK391.out) NB391_394.out (by simp))
        have n1_ := Aside0.mk (KeepBut.blk hk (g' := gb404) (o := .cells #[.int .i64 x405000_1, .int .i64 x405001_1, .int .i64 x405002_1, .int .i64 x405003_1, .int .i64 x405004_1, .int .i64 x405005_1, .int .i64 x405006_1, .int .i64 x405007_1] 41 (0, 0)) (by (with_reducible repeat (first | refine blk_drewN ?_ _ | refine blk_drew ?_ | refine blk_alloc ?_ _)); exact BK404.out) NB404_394.out (by simp))
        have n2_ := Aside0.mk (hb)
        have n3_ := Aside0.mk (hi)
        clear BK391
        clear BK404
        clear HB
        clear HI394
        have BK391 := n0_
        have BK404 := n1_
        have HB := n2_
        have HI394 := n3_
        clear n0_ n1_ n2_ n3_
        (try clear hb)
        (try clear hb2)
        (try clear hk)
        (try clear hi)
        refine hK.out _ _ ⟨(blk_cell BK404.out 0).trans rfl, (blk_cell BK404.out 1).trans rfl, (blk_cell BK404.out 2).trans rfl, (blk_cell BK404.out 3).trans rfl, (blk_cell BK404.out 4).trans rfl, (blk_cell BK404.out 5).trans rfl, (blk_cell BK404.out 6).trans rfl, (blk_cell BK404.out 7).trans rfl⟩ (fun hHeld => ?_)
        clear hK K
        refine norm_ (a' := ?_) ?_ ?_
        rotate_left
        · show Act.put _ (some 36) _ = _
          simp only [Act.put, List.setIfInBounds_toArray, List.set_cons_zero, List.set_cons_succ, i64_w, i32_w]
          rfl
        refine pure_ (i := 5) (N := some 37) (v := ?_) (a' := ?_) #[true, true, true, true, true, true, false, false, false, false] rfl rfl (any_of HT_.out (by kernel_rfl)) (fun _ _ _ h => h) (Or.inl ⟨by rfl, ?_⟩) ?_ ?_
        rotate_left
        · intro w'
          go_simp
          with_reducible rfl
        rotate_left
        · simp only [Act.put, List.setIfInBounds_toArray, List.set_cons_zero, List.set_cons_succ, i64_w, i32_w]
          rfl
        refine pure_ (i := 6) (N := some 38) (v := ?_) (a' := ?_) #[true, true, true, true, true, true, true, false, false, false] rfl rfl (any_of HT_.out (by kernel_rfl)) (fun _ _ _ h => h) (Or.inl ⟨by rfl, ?_⟩) ?_ ?_
        rotate_left
        · intro w'
          go_simp
          with_reducible rfl
        rotate_left
        · simp only [Act.put, List.setIfInBounds_toArray, List.set_cons_zero, List.set_cons_succ, i64_w, i32_w]
          rfl
        refine pure_ (i := 7) (N := some 39) (v := ?_) (a' := ?_) #[true, true, true, true, true, true, true, true, false, false] rfl rfl (any_of HT_.out (by kernel_rfl)) (fun _ _ _ h => h) (Or.inl ⟨by rfl, ?_⟩) ?_ ?_
        rotate_left
        · intro w'
          go_simp
          with_reducible rfl
        rotate_left
        · simp only [Act.put, List.setIfInBounds_toArray, List.set_cons_zero, List.set_cons_succ, i64_w, i32_w]
          rfl
        refine one_ (i := 8) (N := none) #[true, true, true, true, true, true, true, true, true, false] rfl rfl (one_of HT_.out (by kernel_rfl)) (by decide) (fun K hK => ?_)
        have hs76 : w75.cell? ⟨gb391, 0, none⟩ = some (.int .i64 0) := (blk_cell BK391.out 0).trans rfl
        have hfs76 := blk_frozen BK391.out 0
        have hns76_1 := NB404_391.out
        have hms76_1 := NB391_404.out
        have hs77 : w75.cell? ⟨gb391, 1, none⟩ = some (.int .i64 0) := (blk_cell BK391.out 1).trans rfl
        have hfs77 := blk_frozen BK391.out 1
        have hns77_1 := NB404_391.out
        have hms77_1 := NB391_404.out
        have hs78 : w75.cell? ⟨gb391, 2, none⟩ = some (.int .i64 0) := (blk_cell BK391.out 2).trans rfl
        have hfs78 := blk_frozen BK391.out 2
        have hns78_1 := NB404_391.out
        have hms78_1 := NB391_404.out
        have hs79 : w75.cell? ⟨gb391, 3, none⟩ = some (.int .i64 0) := (blk_cell BK391.out 3).trans rfl
        have hfs79 := blk_frozen BK391.out 3
        have hns79_1 := NB404_391.out
        have hms79_1 := NB391_404.out
        have hs80 : w75.cell? ⟨gb391, 4, none⟩ = some (.int .i64 0) := (blk_cell BK391.out 4).trans rfl
        have hfs80 := blk_frozen BK391.out 4
        have hns80_1 := NB404_391.out
        have hms80_1 := NB391_404.out
        have hs81 : w75.cell? ⟨gb391, 5, none⟩ = some (.int .i64 0) := (blk_cell BK391.out 5).trans rfl
        have hfs81 := blk_frozen BK391.out 5
        have hns81_1 := NB404_391.out
        have hms81_1 := NB391_404.out
        have hs82 : w75.cell? ⟨gb391, 6, none⟩ = some (.int .i64 0) := (blk_cell BK391.out 6).trans rfl
        have hfs82 := blk_frozen BK391.out 6
        have hns82_1 := NB404_391.out
        have hms82_1 := NB391_404.out
        have hs83 : w75.cell? ⟨gb391, 7, none⟩ = some (.int .i64 0) := (blk_cell BK391.out 7).trans rfl
        have hfs83 := blk_frozen BK391.out 7
        have hns83_1 := NB404_391.out
        have hms83_1 := NB391_404.out
        refine skip_ (w1 := ?_) (by rfl) rfl ?_ ?_
        rotate_left
        · go_simp
          rfl
        refine hK.out _ _ ⟨((cell_far (p := ⟨gb391, _, none⟩) NB404_391.out _).trans (((cell_far (p := ⟨gb391, _, none⟩) NB404_391.out _).trans (((cell_far (p := ⟨gb391, _, none⟩) NB404_391.out _).trans (((cell_far (p := ⟨gb391, _, none⟩) NB404_391.out _).trans (((cell_far (p := ⟨gb391, _, none⟩) NB404_391.out _).trans (((cell_far (p := ⟨gb391, _, none⟩) NB404_391.out _).trans (((cell_far (p := ⟨gb391, _, none⟩) NB404_391.out _).trans (((cell_far (p := ⟨gb391, _, none⟩) NB404_391.out _).trans (hHeld.1)))))))))))))))), ((cell_far (p := ⟨gb391, _, none⟩) NB404_391.out _).trans (((cell_far (p := ⟨gb391, _, none⟩) NB404_391.out _).trans (((cell_far (p := ⟨gb391, _, none⟩) NB404_391.out _).trans (((cell_far (p := ⟨gb391, _, none⟩) NB404_391.out _).trans (((cell_far (p := ⟨gb391, _, none⟩) NB404_391.out _).trans (((cell_far (p := ⟨gb391, _, none⟩) NB404_391.out _).trans (((cell_far (p := ⟨gb391, _, none⟩) NB404_391.out _).trans (((cell_far (p := ⟨gb391, _, none⟩) NB404_391.out _).trans (hHeld.2.1)))))))))))))))), ((cell_far (p := ⟨gb391, _, none⟩) NB404_391.out _).trans (((cell_far (p := ⟨gb391, _, none⟩) NB404_391.out _).trans (((cell_far (p := ⟨gb391, _, none⟩) NB404_391.out _).trans (((cell_far (p := ⟨gb391, _, none⟩) NB404_391.out _).trans (((cell_far (p := ⟨gb391, _, none⟩) NB404_391.out _).trans (((cell_far (p := ⟨gb391, _, none⟩) NB404_391.out _).trans (((cell_far (p := ⟨gb391, _, none⟩) NB404_391.out _).trans (((cell_far (p := ⟨gb391, _, none⟩) NB404_391.out _).trans (hHeld.2.2.1)))))))))))))))), ((cell_far (p := ⟨gb391, _, none⟩) NB404_391.out _).trans (((cell_far (p := ⟨gb391, _, none⟩) NB404_391.out _).trans (((cell_far (p := ⟨gb391, _, none⟩) NB404_391.out _).trans (((cell_far (p := ⟨gb391, _, none⟩) NB404_391.out _).trans (((cell_far (p := ⟨gb391, _, none⟩) NB404_391.out _).trans (((cell_far (p := ⟨gb391, _, none⟩) NB404_391.out _).trans (((cell_far (p := ⟨gb391, _, none⟩) NB404_391.out _).trans (((cell_far (p := ⟨gb391, _, none⟩) NB404_391.out _).trans (hHeld.2.2.2.1)))))))))))))))), ((cell_far (p := ⟨gb391, _, none⟩) NB404_391.out _).trans (((cell_far (p := ⟨gb391, _, none⟩) NB404_391.out _).trans (((cell_far (p := ⟨gb391, _, none⟩) NB404_391.out _).trans (((cell_far (p := ⟨gb391, _, none⟩) NB404_391.out _).trans (((cell_far (p := ⟨gb391, _, none⟩) NB404_391.out _).trans (((cell_far (p := ⟨gb391, _, none⟩) NB404_391.out _).trans (((cell_far (p := ⟨gb391, _, none⟩) NB404_391.out _).trans (((cell_far (p := ⟨gb391, _, none⟩) NB404_391.out _).trans (hHeld.2.2.2.2.1)))))))))))))))), ((cell_far (p := ⟨gb391, _, none⟩) NB404_391.out _).trans (((cell_far (p := ⟨gb391, _, none⟩) NB404_391.out _).trans (((cell_far (p := ⟨gb391, _, none⟩) NB404_391.out _).trans (((cell_far (p := ⟨gb391, _, none⟩) NB404_391.out _).trans (((cell_far (p := ⟨gb391, _, none⟩) NB404_391.out _).trans (((cell_far (p := ⟨gb391, _, none⟩) NB404_391.out _).trans (((cell_far (p := ⟨gb391, _, none⟩) NB404_391.out _).trans (((cell_far (p := ⟨gb391, _, none⟩) NB404_391.out _).trans (hHeld.2.2.2.2.2.1)))))))))))))))), ((cell_far (p := ⟨gb391, _, none⟩) NB404_391.out _).trans (((cell_far (p := ⟨gb391, _, none⟩) NB404_391.out _).trans (((cell_far (p := ⟨gb391, _, none⟩) NB404_391.out _).trans (((cell_far (p := ⟨gb391, _, none⟩) NB404_391.out _).trans (((cell_far (p := ⟨gb391, _, none⟩) NB404_391.out _).trans (((cell_far (p := ⟨gb391, _, none⟩) NB404_391.out _).trans (((cell_far (p := ⟨gb391, _, none⟩) NB404_391.out _).trans (((cell_far (p := ⟨gb391, _, none⟩) NB404_391.out _).trans (hHeld.2.2.2.2.2.2.1)))))))))))))))), ((cell_far (p := ⟨gb391, _, none⟩) NB404_391.out _).trans (((cell_far (p := ⟨gb391, _, none⟩) NB404_391.out _).trans (((cell_far (p := ⟨gb391, _, none⟩) NB404_391.out _).trans (((cell_far (p := ⟨gb391, _, none⟩) NB404_391.out _).trans (((cell_far (p := ⟨gb391, _, none⟩) NB404_391.out _).trans (((cell_far (p := ⟨gb391, _, none⟩) NB404_391.out _).trans (((cell_far (p := ⟨gb391, _, none⟩) NB404_391.out _).trans (((cell_far (p := ⟨gb391, _, none⟩) NB404_391.out _).trans (hHeld.2.2.2.2.2.2.2))))))))))))))))⟩ (fun hHeld => ?_)
        clear hK K
        refine pure_ (i := 9) (N := some 3) (v := ?_) (a' := ?_) #[true, true, true, true, true, true, true, true, true, true] rfl rfl (any_of HT_.out (by kernel_rfl)) (fun _ _ _ h => h) (Or.inl ⟨by rfl, ?_⟩) ?_ ?_
        rotate_left
        · intro w'
          go_simp
          with_reducible rfl
        rotate_left
        · simp only [Act.put, List.setIfInBounds_toArray, List.set_cons_zero, List.set_cons_succ, i64_w, i32_w]
          rfl
        refine done_ (done_of HT_.out (by kernel_rfl)) ?_
        try go_wp2
        refine bodyPost_ret (results_ct rfl _ _ gb391 41 #[.int .i64 x405000_1, .int .i64 x405001_1, .int .i64 x405002_1, .int .i64 x405003_1, .int .i64 x405004_1, .int .i64 x405005_1, .int .i64 x405006_1, .int .i64 x405007_1] (0, 0) _ rfl (by (with_reducible repeat (first | refine blk_drewN ?_ _ | refine blk_drew ?_ | refine blk_alloc ?_ _)); refine blk_put (cs := #[.int .i64 x405000_1, .int .i64 x405001_1, .int .i64 x405002_1, .int .i64 x405003_1, .int .i64 x405004_1, .int .i64 x405005_1, .int .i64 x405006_1, .int .i64 0]) ?_ 7 _ rfl; (with_reducible repeat (first | refine blk_drewN ?_ _ | refine blk_drew ?_ | refine blk_alloc ?_ _)); refine blk_put (cs := #[.int .i64 x405000_1, .int .i64 x405001_1, .int .i64 x405002_1, .int .i64 x405003_1, .int .i64 x405004_1, .int .i64 x405005_1, .int .i64 0, .int .i64 0]) ?_ 6 _ rfl; (with_reducible repeat (first | refine blk_drewN ?_ _ | refine blk_drew ?_ | refine blk_alloc ?_ _)); refine blk_put (cs := #[.int .i64 x405000_1, .int .i64 x405001_1, .int .i64 x405002_1, .int .i64 x405003_1, .int .i64 x405004_1, .int .i64 0, .int .i64 0, .int .i64 0]) ?_ 5 _ rfl; (with_reducible repeat (first | refine blk_drewN ?_ _ | refine blk_drew ?_ | refine blk_alloc ?_ _)); refine blk_put (cs := #[.int .i64 x405000_1, .int .i64 x405001_1, .int .i64 x405002_1, .int .i64 x405003_1, .int .i64 0, .int .i64 0, .int .i64 0, .int .i64 0]) ?_ 4 _ rfl; (with_reducible repeat (first | refine blk_drewN ?_ _ | refine blk_drew ?_ | refine blk_alloc ?_ _)); refine blk_put (cs := #[.int .i64 x405000_1, .int .i64 x405001_1, .int .i64 x405002_1, .int .i64 0, .int .i64 0, .int .i64 0, .int .i64 0, .int .i64 0]) ?_ 3 _ rfl; (with_reducible repeat (first | refine blk_drewN ?_ _ | refine blk_drew ?_ | refine blk_alloc ?_ _)); refine blk_put (cs := #[.int .i64 x405000_1, .int .i64 x405001_1, .int .i64 0, .int .i64 0, .int .i64 0, .int .i64 0, .int .i64 0, .int .i64 0]) ?_ 2 _ rfl; (with_reducible repeat (first | refine blk_drewN ?_ _ | refine blk_drew ?_ | refine blk_alloc ?_ _)); refine blk_put (cs := #[.int .i64 x405000_1, .int .i64 0, .int .i64 0, .int .i64 0, .int .i64 0, .int .i64 0, .int .i64 0, .int .i64 0]) ?_ 1 _ rfl; (with_reducible repeat (first | refine blk_drewN ?_ _ | refine blk_drew ?_ | refine blk_alloc ?_ _)); refine blk_put (cs := #[.int .i64 0, .int .i64 0, .int .i64 0, .int .i64 0, .int .i64 0, .int .i64 0, .int .i64 0, .int .i64 0]) ?_ 0 _ rfl; (with_reducible repeat (first | refine blk_drewN ?_ _ | refine blk_drew ?_ | refine blk_alloc ?_ _)); exact BK391.out) Try.underlying41 rfl (by kernel_rfl)) rfl ?_
        exact ⟨by first | rfl | (simp [errW_none, errW_some] <;> rfl) | (simp [*, errW_none, errW_some] <;> rfl), by repeat (first | (with_reducible first | exact HB.out | apply below_alloc | apply pw_below_drewN | apply below_drew1 | refine below_set ?_ (IsS96.ge HI394.out) | refine below_set ?_ GE391.out | refine below_set ?_ GE404.out) | exact HB.out)⟩


end Go.Proofs.Ytcefiblpnegepaa.Pr
