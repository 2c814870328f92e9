-- Laid by a program (extract.py) out of this seat's translation: contracts of a few functions, a text a function; Lean checks them.
import Derived.Test.YtjicmjfnmdhahaaPrK
import Derived.Test.YtjicmjfnmdhahaaPrRd
import Derived.Test.YtjicmjfnmdhahaaPrL71
namespace Go.Proofs.Ytjicmjfnmdhahaa.Pr
open Go.RowKit Go.Proofs.YtjicmjfnmdhahaaW.PrintWords Go.Proofs.YtjicmjfnmdhahaaW.PrintLast Go.Proofs.YtjicmjfnmdhahaaW.PrintMore
attribute [local go_sem] max2_int min2_int max_two min_two max_three min_three max_four min_four
set_option linter.unusedVariables false
set_option linter.unusedSimpArgs false
/-! ### spec_DrawRecBack: function 43 -/
def spec_DrawRecBack.l0 : Nat → Int → List Int → Int → Int → Int → Int → Int → Int → Int → Int → Int → Option (Int × Int × Int × Int × Int × Int × Int × Int × Int)
  | 0, _, _, _, _, _, _, _, _, _, _, _ => none
  | k + 1, x6, x398000, x398001, x408000, x408001, x408002, x408003, x408004, x408005, x408006, x408007 => if x6 < 4 then ((spec_l6Rd_pick.f k x398000 x398001 8).bind fun bt408 => (if bt408.1 > 0 then (if x408000 = 1 then ((spec_l6Rd_pick.f k x398000 bt408.2 12).bind fun bt410 => ((spec_l6Rd_pick.f k x398000 bt410.2 24).bind fun bt412 => (some (x408000, x408001, x408002, x408003, x408004, x408005, x408006, x408007, wrap64 (bt410.1 - (wrap64 ((wrap64 (Int.tdiv bt412.1 23)) * 13))))))) else (if x408000 = 2 then ((spec_l6Rd_pick.f k x398000 bt408.2 12).bind fun bt414 => ((spec_l6Rd_pick.f k x398000 bt414.2 24).bind fun bt416 => (some (x408000, x408001, x408002, x408003, x408004, x408005, x408006, x408007, wrap64 (bt414.1 - (wrap64 ((wrap64 (Int.tdiv bt416.1 23)) * 13))))))) else ((spec_l71Rec.f k x398000 bt408.2).bind fun bt418 => (spec_DrawRecBack.l0 k (wrap64 (x6 + 1)) x398000 bt418.2.2.2.2.2.2.2.2 bt418.1 bt418.2.1 bt418.2.2.1 bt418.2.2.2.1 bt418.2.2.2.2.1 bt418.2.2.2.2.2.1 bt418.2.2.2.2.2.2.1 bt418.2.2.2.2.2.2.2.1)))) else ((spec_l6Rd_pick.f k x398000 bt408.2 12).bind fun bt427 => ((spec_l6Rd_pick.f k x398000 bt427.2 24).bind fun bt429 => (some (x408000, x408001, x408002, x408003, x408004, x408005, x408006, x408007, wrap64 (bt427.1 - (wrap64 ((wrap64 (Int.tdiv bt429.1 23)) * 13))))))))) else ((spec_l6Rd_pick.f k x398000 x398001 12).bind fun bt431 => ((spec_l6Rd_pick.f k x398000 bt431.2 24).bind fun bt433 => (some (x408000, x408001, x408002, x408003, x408004, x408005, x408006, x408007, wrap64 (bt431.1 - (wrap64 ((wrap64 (Int.tdiv bt433.1 23)) * 13)))))))
def spec_DrawRecBack.f (k : Nat) (l0 : List Int) : Option (Int × Int × Int × Int × Int × Int × Int × Int × Int) := (spec_l6Open.f l0).bind fun bt395 => ((spec_l71Rec.f k bt395.1 bt395.2).bind fun bt398 => (spec_DrawRecBack.l0 k 0 bt395.1 bt398.2.2.2.2.2.2.2.2 bt398.1 bt398.2.1 bt398.2.2.1 bt398.2.2.2.1 bt398.2.2.2.2.1 bt398.2.2.2.2.2.1 bt398.2.2.2.2.2.2.1 bt398.2.2.2.2.2.2.2.1))
theorem spec_DrawRecBack.mono_l : ∀ k, (∀ y0 y1 y2 y3 y4 y5 y6 y7 y8 y9 y10, LeO (spec_DrawRecBack.l0 k y0 y1 y2 y3 y4 y5 y6 y7 y8 y9 y10) (spec_DrawRecBack.l0 (k + 1) y0 y1 y2 y3 y4 y5 y6 y7 y8 y9 y10))
  | 0 => fun _ _ _ _ _ _ _ _ _ _ _ r h => by simp [spec_DrawRecBack.l0] at h
  | k + 1 => by
    have ih0 := spec_DrawRecBack.mono_l k
    · intro y0 y1 y2 y3 y4 y5 y6 y7 y8 y9 y10
      unfold spec_DrawRecBack.l0
      repeat' first
      | (with_reducible exact ih0 _ _ _ _ _ _ _ _ _ _ _)
      | (with_reducible exact spec_l6Rd_pick.mono _ _ _ _)
      | (with_reducible exact spec_l71Rec.mono _ _ _)
      | (with_reducible exact LeO.refl _)
      | (with_reducible exact LeO.none _)
      | (with_reducible refine LeO.ite ?_ ?_)
      | (with_reducible refine LeO.bind ?_ (fun _ => ?_))
      | exact ih0 _ _ _ _ _ _ _ _ _ _ _
      | exact spec_l6Rd_pick.mono _ _ _ _
      | exact spec_l71Rec.mono _ _ _
      | exact LeO.none _
      | refine LeO.ite ?_ ?_
      | refine LeO.bind ?_ (fun _ => ?_)
theorem spec_DrawRecBack.mono : ∀ a0 k, LeO (spec_DrawRecBack.f k a0) (spec_DrawRecBack.f (k + 1) a0) := by
  intro a0 k
  have ih0 := spec_DrawRecBack.mono_l k
  unfold spec_DrawRecBack.f
  repeat' first
      | (with_reducible exact ih0 _ _ _ _ _ _ _ _ _ _ _)
      | (with_reducible exact spec_l6Rd_pick.mono _ _ _ _)
      | (with_reducible exact spec_l71Rec.mono _ _ _)
      | (with_reducible exact LeO.refl _)
      | (with_reducible exact LeO.none _)
      | (with_reducible refine LeO.ite ?_ ?_)
      | (with_reducible refine LeO.bind ?_ (fun _ => ?_))
      | exact ih0 _ _ _ _ _ _ _ _ _ _ _
      | exact spec_l6Rd_pick.mono _ _ _ _
      | exact spec_l71Rec.mono _ _ _
      | exact LeO.none _
      | refine LeO.ite ?_ ?_
      | refine LeO.bind ?_ (fun _ => ?_)
def spec_DrawRecBack.T7 : Bool × List (List Nat × List Nat) := (true, [([], []), ([], []), ([1], [1]), ([], []), ([3, 2], [3]), ([4], [4]), ([5], [5]), ([2, 6], [2, 6]), ([0, 4, 0], [0]), ([7, 8, 0, 1, 2, 3, 4, 5, 6, 7, 8], [7])])
def spec_DrawRecBack.B7 : List Nat := [0, 0, 2, 0, 14, 30, 62, 126, 31, 511]
theorem spec_DrawRecBack.tab7 : rtab .any (opsOf Try.f43 7) = spec_DrawRecBack.T7 := by kernel_rfl
theorem spec_DrawRecBack.bits7 : waitsOk spec_DrawRecBack.T7.2 spec_DrawRecBack.B7 = true := by kernel_rfl
set_option maxHeartbeats 8000000 in
set_option maxRecDepth 100000 in
theorem spec_DrawRecBack.calls (k : Nat) (A0 : Option Addr) (c0 : Nat) (l0 : List Int) (r1 : Int) (r2 : Int) (r3 : Int) (r4 : Int) (r5 : Int) (r6 : Int) (r7 : Int) (r8 : Int) (r9 : Int) (w : World) (hr0 : Kd.C (Kd.int .u8) w A0 l0.length l0) (hc0 : l0.length ≤ c0) (h : spec_DrawRecBack.f k l0 = some (r1, r2, r3, r4, r5, r6, r7, r8, r9)) :
    Calls Try.prog 43 #[.slice A0 l0.length c0] w fun e w' => e = .returned (.tuple #[.agg #[.int .i64 r1, .int .i64 r2, .int .i64 r3, .int .i64 r4, .int .i64 r5, .int .i64 r6, .int .i64 r7, .int .i64 r8], .int .i64 r9]) ∧ Below w.heap.size w w' := by
  have hu25 := Try.underlying25
  have HR0 := Aside0.mk hr0
  have HC0 := Aside0.mk hc0
  clear hr0 hc0
  have HB := Aside0.mk (Below.refl w.heap.size w)
  have H : ((spec_l6Open.f l0).bind fun bt395 => ((spec_l71Rec.f k bt395.1 bt395.2).bind fun bt398 => (spec_DrawRecBack.l0 k 0 bt395.1 bt398.2.2.2.2.2.2.2.2 bt398.1 bt398.2.1 bt398.2.2.1 bt398.2.2.2.1 bt398.2.2.2.2.1 bt398.2.2.2.2.2.1 bt398.2.2.2.2.2.2.1 bt398.2.2.2.2.2.2.2.1))) = some (r1, r2, r3, r4, r5, r6, r7, r8, r9) := h
  clear h
  replace H := Option.bind_eq_some_iff.mp H
  obtain ⟨⟨t395, t396⟩, A20, H⟩ := H
  replace H : ((spec_l71Rec.f k t395 t396).bind fun bt398 => (spec_DrawRecBack.l0 k 0 t395 bt398.2.2.2.2.2.2.2.2 bt398.1 bt398.2.1 bt398.2.2.1 bt398.2.2.2.1 bt398.2.2.2.2.1 bt398.2.2.2.2.2.1 bt398.2.2.2.2.2.2.1 bt398.2.2.2.2.2.2.2.1)) = some (r1, r2, r3, r4, r5, r6, r7, r8, r9) := H
  have A2 := Aside0.mk A20
  clear A20
  replace H := Option.bind_eq_some_iff.mp H
  obtain ⟨⟨t398, t399, t400, t401, t402, t403, t404, t405, t406⟩, A30, H⟩ := H
  replace H : (spec_DrawRecBack.l0 k 0 t395 t406 t398 t399 t400 t401 t402 t403 t404 t405) = some (r1, r2, r3, r4, r5, r6, r7, r8, r9) := H
  have A3 := Aside0.mk A30
  clear A30
  have H' := Aside0.mk H
  clear H
  go_enter Try.func43, Try.ntmps43
  go_wp2_with (first | ((with_reducible refine gate_dst (N := 2) rfl ?_); refine box_event ?hg (N := 2) ?hd (cs := #[.int .i64 0, .int .i64 0, .int .i64 0, .int .i64 0, .int .i64 0, .int .i64 0, .int .i64 0, .int .i64 0]) (t := 25) ?hr ?_; (case hd => rfl); (case hg => rfl); (case hr => first | (go_simp; done) | (go_simp; rfl)); intro gb394 hg w4 hbox hb; have n0_ := Aside0.mk (below_step (by repeat (first | (with_reducible first | exact HB.out | apply below_alloc | apply pw_below_drewN | apply below_drew1) | exact HB.out)) hb); have n1_ := Aside0.mk (hbox); have n2_ := Aside0.mk ((by rw [hg]; exact (below_size (by repeat (first | (with_reducible first | exact HB.out | apply below_alloc | apply pw_below_drewN | apply below_drew1) | exact HB.out))) : w.heap.size ≤ gb394)); have n3_ := Aside0.mk ((by rw [hg]; exact (below_size (by repeat (first | (with_reducible first | exact HB.out | apply below_alloc | apply pw_below_drewN | apply below_drew1) | exact HB.out))) : w.heap.size ≤ gb394)); clear HB; have HB := n0_; have BK394 := n1_; have GW394 := n2_; have GE394 := n3_; clear n0_ n1_ n2_ n3_; clear hb hbox hg) | ((with_reducible refine gate_callee (f := 91) rfl ?_); refine goesL_ (some 8) rfl rfl Try.func91 (by kernel_rfl) rfl #[.slice A0 l0.length c0] rfl (by (try simp only [List.map_toArray, List.map_cons, List.map_nil]); first | done | rfl | (simp only [List.length_drop, List.length_take]; rfl)) ?_; (with_reducible refine (spec_l6Open.calls _ _ l0 t395 t396 w _ ?side1 ?side2 ?side3 A2.out).mono ?_); (case side1 => repeat (first | (with_reducible first | exact HB.out | apply below_alloc | apply pw_below_drewN | apply below_drew1 | refine below_set ?_ GE394.out) | exact HB.out)); (case side2 => exact HR0.out); (case side3 => exact HC0.out); rintro e w5 ⟨g397, rfl, hi, hb, hb2⟩; refine ⟨_, rfl, ?_⟩; have n0_ := Aside0.mk (blk_below (g := gb394) (o := .cells #[.int .i64 0, .int .i64 0, .int .i64 0, .int .i64 0, .int .i64 0, .int .i64 0, .int .i64 0, .int .i64 0] 25 (0, 0)) (by (with_reducible repeat (first | refine blk_drewN ?_ _ | refine blk_drew ?_ | refine blk_alloc ?_ _)); exact BK394.out) hb2); have n1_ := Aside0.mk (hb); have n2_ := Aside0.mk (hi); have n3_ := Aside0.mk (IsS100.ne_blk hi (blk_below (g := gb394) (o := .cells #[.int .i64 0, .int .i64 0, .int .i64 0, .int .i64 0, .int .i64 0, .int .i64 0, .int .i64 0, .int .i64 0] 25 (0, 0)) (by (with_reducible repeat (first | refine blk_drewN ?_ _ | refine blk_drew ?_ | refine blk_alloc ?_ _)); exact BK394.out) hb2) (by decide)); have n4_ := Aside0.mk (Ne.symm (IsS100.ne_blk hi (blk_below (g := gb394) (o := .cells #[.int .i64 0, .int .i64 0, .int .i64 0, .int .i64 0, .int .i64 0, .int .i64 0, .int .i64 0, .int .i64 0] 25 (0, 0)) (by (with_reducible repeat (first | refine blk_drewN ?_ _ | refine blk_drew ?_ | refine blk_alloc ?_ _)); exact BK394.out) hb2) (by decide))); clear BK394; clear HB; have BK394 := n0_; have HB := n1_; have HI397 := n2_; have NB397_394 := n3_; have NB394_397 := n4_; clear n0_ n1_ n2_ n3_ n4_; (try clear hb); (try clear hb2); (try clear hk); (try clear hi)) | ((with_reducible refine gate_callee (f := 95) rfl ?_); refine goesL_ (some 10) rfl rfl Try.func95 (by kernel_rfl) rfl #[.pointer (some ⟨g397, 0, none⟩)] rfl (by (try simp only [List.map_toArray, List.map_cons, List.map_nil]); first | done | rfl | (simp only [List.length_drop, List.length_take]; rfl)) ?_; (with_reducible refine (spec_l71Rec.calls k g397 t395 t396 t398 t399 t400 t401 t402 t403 t404 t405 t406 w _ ?side1 ?side2 A3.out).mono ?_); (case side1 => repeat (first | (with_reducible first | exact HI397.out | apply IsS100.alloc | apply IsS100.drewN | apply IsS100.drew | apply IsS100.set_1 | refine IsS100.far ?_ NB397_394.out _) | exact HI397.out)); (case side2 => repeat (first | (with_reducible first | exact HB.out | apply below_alloc | apply pw_below_drewN | apply below_drew1 | refine below_set ?_ (IsS100.ge HI397.out) | refine below_set ?_ GE394.out) | exact HB.out)); rintro e w6 ⟨rfl, hi, hb, hk⟩; refine ⟨_, rfl, ?_⟩; have n0_ := Aside0.mk (KeepBut.blk hk (g' := gb394) (o := .cells #[.int .i64 0, .int .i64 0, .int .i64 0, .int .i64 0, .int .i64 0, .int .i64 0, .int .i64 0, .int .i64 0] 25 (0, 0)) (by (with_reducible repeat (first | refine blk_drewN ?_ _ | refine blk_drew ?_ | refine blk_alloc ?_ _)); exact BK394.out) NB394_397.out (by simp)); have n1_ := Aside0.mk (hb); have n2_ := Aside0.mk (hi); clear BK394; clear HB; clear HI397; have BK394 := n0_; have HB := n1_; have HI397 := n2_; clear n0_ n1_ n2_; (try clear hb); (try clear hb2); (try clear hk); (try clear hi)) | ((with_reducible refine gate_dst (N := 5) rfl ?_); refine box_event ?hg (N := 5) ?hd (cs := #[.int .i64 0, .int .i64 0, .int .i64 0, .int .i64 0, .int .i64 0, .int .i64 0, .int .i64 0, .int .i64 0]) (t := 25) ?hr ?_; (case hd => rfl); (case hg => rfl); (case hr => first | (go_simp; done) | (go_simp; rfl)); intro gb407 hg w7 hbox hb; have n0_ := Aside0.mk (blk_below (g := gb394) (o := .cells #[.int .i64 0, .int .i64 0, .int .i64 0, .int .i64 0, .int .i64 0, .int .i64 0, .int .i64 0, .int .i64 0] 25 (0, 0)) (by (with_reducible repeat (first | refine blk_drewN ?_ _ | refine blk_drew ?_ | refine blk_alloc ?_ _)); exact BK394.out) hb); have n1_ := Aside0.mk (IsS100.below (by repeat (first | (with_reducible first | exact HI397.out | apply IsS100.alloc | apply IsS100.drewN | apply IsS100.drew | apply IsS100.set_1 | refine IsS100.far ?_ NB397_394.out _) | exact HI397.out)) hb); have n2_ := Aside0.mk (below_step (by repeat (first | (with_reducible first | exact HB.out | apply below_alloc | apply pw_below_drewN | apply below_drew1 | refine below_set ?_ (IsS100.ge HI397.out) | refine below_set ?_ GE394.out) | exact HB.out)) hb); have n3_ := Aside0.mk (hbox); have n4_ := Aside0.mk ((by rw [hg]; exact (below_size (by repeat (first | (with_reducible first | exact HB.out | apply below_alloc | apply pw_below_drewN | apply below_drew1 | refine below_set ?_ (IsS100.ge HI397.out) | refine below_set ?_ GE394.out) | exact HB.out))) : w.heap.size ≤ gb407)); have n5_ := Aside0.mk ((by rw [hg]; exact (below_size (by repeat (first | (with_reducible first | exact HB.out | apply below_alloc | apply pw_below_drewN | apply below_drew1 | refine below_set ?_ (IsS100.ge HI397.out) | refine below_set ?_ GE394.out) | exact HB.out))) : w.heap.size ≤ gb407)); have n6_ := Aside0.mk ((by rw [hg]; exact Nat.ne_of_lt (blk_lt (g := gb394) (o := .cells #[.int .i64 0, .int .i64 0, .int .i64 0, .int .i64 0, .int .i64 0, .int .i64 0, .int .i64 0, .int .i64 0] 25 (0, 0)) (by (with_reducible repeat (first | refine blk_drewN ?_ _ | refine blk_drew ?_ | refine blk_alloc ?_ _)); exact BK394.out)) : gb394 ≠ gb407)); have n7_ := Aside0.mk ((by rw [hg]; exact Nat.ne_of_gt (blk_lt (g := gb394) (o := .cells #[.int .i64 0, .int .i64 0, .int .i64 0, .int .i64 0, .int .i64 0, .int .i64 0, .int .i64 0, .int .i64 0] 25 (0, 0)) (by (with_reducible repeat (first | refine blk_drewN ?_ _ | refine blk_drew ?_ | refine blk_alloc ?_ _)); exact BK394.out)) : gb407 ≠ gb394)); have n8_ := Aside0.mk ((by rw [hg]; exact Nat.ne_of_lt (IsS100.lt (show IsS100 w _ g397 t395 t406 from by repeat (first | (with_reducible first | exact HI397.out | apply IsS100.alloc | apply IsS100.drewN | apply IsS100.drew | apply IsS100.set_1 | refine IsS100.far ?_ NB397_394.out _) | exact HI397.out))) : g397 ≠ gb407)); have n9_ := Aside0.mk ((by rw [hg]; exact Nat.ne_of_gt (IsS100.lt (show IsS100 w _ g397 t395 t406 from by repeat (first | (with_reducible first | exact HI397.out | apply IsS100.alloc | apply IsS100.drewN | apply IsS100.drew | apply IsS100.set_1 | refine IsS100.far ?_ NB397_394.out _) | exact HI397.out))) : gb407 ≠ g397)); clear BK394; clear HI397; clear HB; have BK394 := n0_; have HI397 := n1_; have HB := n2_; have BK407 := n3_; have GW407 := n4_; have GE407 := n5_; have NB394_407 := n6_; have NB407_394 := n7_; have NB397_407 := n8_; have NB407_397 := n9_; clear n0_ n1_ n2_ n3_ n4_ n5_ n6_ n7_ n8_ n9_; clear hb hbox hg; have hnb8 := NB407_394.out; have hnc8 := NB394_407.out; have hnb9 := NB407_397.out; have hnc9 := NB397_407.out; have hcz10_0 : w7.cell? ⟨gb407, 0, none⟩ = some (.int .i64 0) := (blk_cell BK407.out 0).trans rfl; have hcz10_1 : w7.cell? ⟨gb407, 1, none⟩ = some (.int .i64 0) := (blk_cell BK407.out 1).trans rfl; have hcz10_2 : w7.cell? ⟨gb407, 2, none⟩ = some (.int .i64 0) := (blk_cell BK407.out 2).trans rfl; have hcz10_3 : w7.cell? ⟨gb407, 3, none⟩ = some (.int .i64 0) := (blk_cell BK407.out 3).trans rfl; have hcz10_4 : w7.cell? ⟨gb407, 4, none⟩ = some (.int .i64 0) := (blk_cell BK407.out 4).trans rfl; have hcz10_5 : w7.cell? ⟨gb407, 5, none⟩ = some (.int .i64 0) := (blk_cell BK407.out 5).trans rfl; have hcz10_6 : w7.cell? ⟨gb407, 6, none⟩ = some (.int .i64 0) := (blk_cell BK407.out 6).trans rfl; have hcz10_7 : w7.cell? ⟨gb407, 7, none⟩ = some (.int .i64 0) := (blk_cell BK407.out 7).trans rfl; have hfz10_0 := blk_frozen BK407.out 0; have hfz10_1 := blk_frozen BK407.out 1; have hfz10_2 := blk_frozen BK407.out 2; have hfz10_3 := blk_frozen BK407.out 3; have hfz10_4 := blk_frozen BK407.out 4; have hfz10_5 := blk_frozen BK407.out 5; have hfz10_6 := blk_frozen BK407.out 6; have hfz10_7 := blk_frozen BK407.out 7))
  go_loopg [6] k (fun kq v6 w' => ∃ (x6_1 : Int) (x398001_1 : Int) (x408000_1 : Int) (x408001_1 : Int) (x408002_1 : Int) (x408003_1 : Int) (x408004_1 : Int) (x408005_1 : Int) (x408006_1 : Int) (x408007_1 : Int), v6 = .int .i64 x6_1 ∧ Aside0 (spec_DrawRecBack.l0 kq x6_1 t395 x398001_1 x408000_1 x408001_1 x408002_1 x408003_1 x408004_1 x408005_1 x408006_1 x408007_1 = some (r1, r2, r3, r4, r5, r6, r7, r8, r9)) ∧ Aside0 (kq ≤ k) ∧ Aside0 (w'.heap[gb394]? = some (.cells #[.int .i64 0, .int .i64 0, .int .i64 0, .int .i64 0, .int .i64 0, .int .i64 0, .int .i64 0, .int .i64 0] 25 (0, 0))) ∧ Aside0 (w'.heap[gb407]? = some (.cells #[.int .i64 x408000_1, .int .i64 x408001_1, .int .i64 x408002_1, .int .i64 x408003_1, .int .i64 x408004_1, .int .i64 x408005_1, .int .i64 x408006_1, .int .i64 x408007_1] 25 (0, 0))) ∧ Aside0 (IsS100 w w' g397 t395 x398001_1) ∧ Aside0 (Below w.heap.size w w'))
  case atStart => exact ⟨(0), (t406), (t398), (t399), (t400), (t401), (t402), (t403), (t404), (t405), (by first | rfl | (simp; done) | (simp [*]; done)), H', ⟨Nat.le_refl _⟩, ⟨by (with_reducible repeat (first | refine blk_drewN ?_ _ | refine blk_drew ?_ | refine blk_alloc ?_ _)); refine blk_far ?_ NB394_407.out _; (with_reducible repeat (first | refine blk_drewN ?_ _ | refine blk_drew ?_ | refine blk_alloc ?_ _)); refine blk_far ?_ NB394_407.out _; (with_reducible repeat (first | refine blk_drewN ?_ _ | refine blk_drew ?_ | refine blk_alloc ?_ _)); refine blk_far ?_ NB394_407.out _; (with_reducible repeat (first | refine blk_drewN ?_ _ | refine blk_drew ?_ | refine blk_alloc ?_ _)); refine blk_far ?_ NB394_407.out _; (with_reducible repeat (first | refine blk_drewN ?_ _ | refine blk_drew ?_ | refine blk_alloc ?_ _)); refine blk_far ?_ NB394_407.out _; (with_reducible repeat (first | refine blk_drewN ?_ _ | refine blk_drew ?_ | refine blk_alloc ?_ _)); refine blk_far ?_ NB394_407.out _; (with_reducible repeat (first | refine blk_drewN ?_ _ | refine blk_drew ?_ | refine blk_alloc ?_ _)); refine blk_far ?_ NB394_407.out _; (with_reducible repeat (first | refine blk_drewN ?_ _ | refine blk_drew ?_ | refine blk_alloc ?_ _)); refine blk_far ?_ NB394_407.out _; (with_reducible repeat (first | refine blk_drewN ?_ _ | refine blk_drew ?_ | refine blk_alloc ?_ _)); exact BK394.out⟩, ⟨by (with_reducible repeat (first | refine blk_drewN ?_ _ | refine blk_drew ?_ | refine blk_alloc ?_ _)); refine blk_put (cs := #[.int .i64 t398, .int .i64 t399, .int .i64 t400, .int .i64 t401, .int .i64 t402, .int .i64 t403, .int .i64 t404, .int .i64 0]) ?_ 7 _ rfl; (with_reducible repeat (first | refine blk_drewN ?_ _ | refine blk_drew ?_ | refine blk_alloc ?_ _)); refine blk_put (cs := #[.int .i64 t398, .int .i64 t399, .int .i64 t400, .int .i64 t401, .int .i64 t402, .int .i64 t403, .int .i64 0, .int .i64 0]) ?_ 6 _ rfl; (with_reducible repeat (first | refine blk_drewN ?_ _ | refine blk_drew ?_ | refine blk_alloc ?_ _)); refine blk_put (cs := #[.int .i64 t398, .int .i64 t399, .int .i64 t400, .int .i64 t401, .int .i64 t402, .int .i64 0, .int .i64 0, .int .i64 0]) ?_ 5 _ rfl; (with_reducible repeat (first | refine blk_drewN ?_ _ | refine blk_drew ?_ | refine blk_alloc ?_ _)); refine blk_put (cs := #[.int .i64 t398, .int .i64 t399, .int .i64 t400, .int .i64 t401, .int .i64 0, .int .i64 0, .int .i64 0, .int .i64 0]) ?_ 4 _ rfl; (with_reducible repeat (first | refine blk_drewN ?_ _ | refine blk_drew ?_ | refine blk_alloc ?_ _)); refine blk_put (cs := #[.int .i64 t398, .int .i64 t399, .int .i64 t400, .int .i64 0, .int .i64 0, .int .i64 0, .int .i64 0, .int .i64 0]) ?_ 3 _ rfl; (with_reducible repeat (first | refine blk_drewN ?_ _ | refine blk_drew ?_ | refine blk_alloc ?_ _)); refine blk_put (cs := #[.int .i64 t398, .int .i64 t399, .int .i64 0, .int .i64 0, .int .i64 0, .int .i64 0, .int .i64 0, .int .i64 0]) ?_ 2 _ rfl; (with_reducible repeat (first | refine blk_drewN ?_ _ | refine blk_drew ?_ | refine blk_alloc ?_ _)); refine blk_put (cs := #[.int .i64 t398, .int .i64 0, .int .i64 0, .int .i64 0, .int .i64 0, .int .i64 0, .int .i64 0, .int .i64 0]) ?_ 1 _ rfl; (with_reducible repeat (first | refine blk_drewN ?_ _ | refine blk_drew ?_ | refine blk_alloc ?_ _)); refine blk_put (cs := #[.int .i64 0, .int .i64 0, .int .i64 0, .int .i64 0, .int .i64 0, .int .i64 0, .int .i64 0, .int .i64 0]) ?_ 0 _ rfl; (with_reducible repeat (first | refine blk_drewN ?_ _ | refine blk_drew ?_ | refine blk_alloc ?_ _)); exact BK407.out⟩, ⟨by repeat (first | (with_reducible first | exact HI397.out | apply IsS100.alloc | apply IsS100.drewN | apply IsS100.drew | apply IsS100.set_1 | refine IsS100.far ?_ NB397_394.out _ | refine IsS100.far ?_ NB397_407.out _) | exact HI397.out)⟩, ⟨by repeat (first | (with_reducible first | exact HB.out | apply below_alloc | apply pw_below_drewN | apply below_drew1 | refine below_set ?_ (IsS100.ge HI397.out) | refine below_set ?_ GE394.out | refine below_set ?_ GE407.out) | exact HB.out)⟩⟩
  case round =>
    clear H'
    try clear p2
    try clear c4
    try clear c8
    try clear c9
    try clear hcz10_0
    try clear hcz10_1
    try clear hcz10_2
    try clear hcz10_3
    try clear hcz10_4
    try clear hcz10_5
    try clear hcz10_6
    try clear hcz10_7
    try clear hfz10_0
    try clear hfz10_1
    try clear hfz10_2
    try clear hfz10_3
    try clear hfz10_4
    try clear hfz10_5
    try clear hfz10_6
    try clear hfz10_7
    obtain ⟨x6_1, x398001_1, x408000_1, x408001_1, x408002_1, x408003_1, x408004_1, x408005_1, x408006_1, x408007_1, rfl, HA, HK1, BK394, BK407, HI397, HB⟩ := hrel
    cases gk with
    | zero => exact absurd HA.out (by simp [spec_DrawRecBack.l0])
    | succ k1 =>
      have H := HA.out
      clear HA
      simp only [spec_DrawRecBack.l0] at H
      by_cases c11 : x6_1 < 4
      · rw [if_pos c11] at H
        have c11b0 : decide (x6_1 < 4) = true := decide_eq_true c11
        clear c11
        replace H := Option.bind_eq_some_iff.mp H
        obtain ⟨⟨t408, t409⟩, A120, H⟩ := H
        replace H : (if t408 > 0 then (if x408000_1 = 1 then ((spec_l6Rd_pick.f k1 t395 t409 12).bind fun bt410 => ((spec_l6Rd_pick.f k1 t395 bt410.2 24).bind fun bt412 => (some (x408000_1, x408001_1, x408002_1, x408003_1, x408004_1, x408005_1, x408006_1, x408007_1, wrap64 (bt410.1 - (wrap64 ((wrap64 (Int.tdiv bt412.1 23)) * 13))))))) else (if x408000_1 = 2 then ((spec_l6Rd_pick.f k1 t395 t409 12).bind fun bt414 => ((spec_l6Rd_pick.f k1 t395 bt414.2 24).bind fun bt416 => (some (x408000_1, x408001_1, x408002_1, x408003_1, x408004_1, x408005_1, x408006_1, x408007_1, wrap64 (bt414.1 - (wrap64 ((wrap64 (Int.tdiv bt416.1 23)) * 13))))))) else ((spec_l71Rec.f k1 t395 t409).bind fun bt418 => (spec_DrawRecBack.l0 k1 (wrap64 (x6_1 + 1)) t395 bt418.2.2.2.2.2.2.2.2 bt418.1 bt418.2.1 bt418.2.2.1 bt418.2.2.2.1 bt418.2.2.2.2.1 bt418.2.2.2.2.2.1 bt418.2.2.2.2.2.2.1 bt418.2.2.2.2.2.2.2.1)))) else ((spec_l6Rd_pick.f k1 t395 t409 12).bind fun bt427 => ((spec_l6Rd_pick.f k1 t395 bt427.2 24).bind fun bt429 => (some (x408000_1, x408001_1, x408002_1, x408003_1, x408004_1, x408005_1, x408006_1, x408007_1, wrap64 (bt427.1 - (wrap64 ((wrap64 (Int.tdiv bt429.1 23)) * 13)))))))) = some (r1, r2, r3, r4, r5, r6, r7, r8, r9) := H
        have A12 := Aside0.mk A120
        clear A120
        by_cases c13 : t408 > 0
        · rw [if_pos c13] at H
          have c13b0 : decide (0 < t408) = true := decide_eq_true c13
          clear c13
          by_cases c14 : x408000_1 = 1
          · rw [if_pos c14] at H
            have c14b0 : (x408000_1 == 1) = true := beq_iff_eq.mpr c14
            have c14b1 : (x408000_1 != 1) = false := bne_eq_false_iff_eq.mpr c14
            clear c14
            replace H := Option.bind_eq_some_iff.mp H
            obtain ⟨⟨t410, t411⟩, A150, H⟩ := H
            replace H : ((spec_l6Rd_pick.f k1 t395 t411 24).bind fun bt412 => (some (x408000_1, x408001_1, x408002_1, x408003_1, x408004_1, x408005_1, x408006_1, x408007_1, wrap64 (t410 - (wrap64 ((wrap64 (Int.tdiv bt412.1 23)) * 13)))))) = some (r1, r2, r3, r4, r5, r6, r7, r8, r9) := H
            have A15 := Aside0.mk A150
            clear A150
            replace H := Option.bind_eq_some_iff.mp H
            obtain ⟨⟨t412, t413⟩, A160, H⟩ := H
            replace H : (some (x408000_1, x408001_1, x408002_1, x408003_1, x408004_1, x408005_1, x408006_1, x408007_1, wrap64 (t410 - (wrap64 ((wrap64 (Int.tdiv t412 23)) * 13))))) = some (r1, r2, r3, r4, r5, r6, r7, r8, r9) := H
            have A16 := Aside0.mk A160
            clear A160
            simp only [Option.some.injEq, Prod.mk.injEq] at H
            obtain ⟨rfl, rfl, rfl, rfl, rfl, rfl, rfl, rfl, rfl⟩ := H
            try go_wp2_with (first | (go_at_call 93; (with_reducible refine (spec_l6Rd_pick.calls k1 g397 t395 x398001_1 8 t408 t409 w _ ?side1 ?side2 A12.out).mono ?_); (case side1 => repeat (first | (with_reducible first | exact HI397.out | apply IsS100.alloc | apply IsS100.drewN | apply IsS100.drew | apply IsS100.set_1 | refine IsS100.far ?_ NB397_394.out _ | refine IsS100.far ?_ NB397_407.out _) | exact HI397.out)); (case side2 => repeat (first | (with_reducible first | exact HB.out | apply below_alloc | apply pw_below_drewN | apply below_drew1 | refine below_set ?_ (IsS100.ge HI397.out) | refine below_set ?_ GE394.out | refine below_set ?_ GE407.out) | exact HB.out)); rintro e w17 ⟨rfl, hi, hb, hk⟩; have n0_ := Aside0.mk (KeepBut.blk hk (g' := gb394) (o := .cells #[.int .i64 0, .int .i64 0, .int .i64 0, .int .i64 0, .int .i64 0, .int .i64 0, .int .i64 0, .int .i64 0] 25 (0, 0)) (by (with_reducible repeat (first | refine blk_drewN ?_ _ | refine blk_drew ?_ | refine blk_alloc ?_ _)); exact BK394.out) NB394_397.out (by simp)); have n1_ := Aside0.mk (KeepBut.blk hk (g' := gb407) (o := .cells #[.int .i64 x408000_1, .int .i64 x408001_1, .int .i64 x408002_1, .int .i64 x408003_1, .int .i64 x408004_1, .int .i64 x408005_1, .int .i64 x408006_1, .int .i64 x408007_1] 25 (0, 0)) (by (with_reducible repeat (first | refine blk_drewN ?_ _ | refine blk_drew ?_ | refine blk_alloc ?_ _)); exact BK407.out) NB407_397.out (by simp)); have n2_ := Aside0.mk (hb); have n3_ := Aside0.mk (hi); clear BK394; clear BK407; clear HB; clear HI397; have BK394 := n0_; have BK407 := n1_; have HB := n2_; have HI397 := n3_; clear n0_ n1_ n2_ n3_; (try clear hb); (try clear hb2); (try clear hk); (try clear hi); have hnb18 := NB407_394.out; have hnc18 := NB394_407.out; have hnb19 := NB407_397.out; have hnc19 := NB397_407.out; have hcz20_0 : w17.cell? ⟨gb407, 0, none⟩ = some (.int .i64 x408000_1) := (blk_cell BK407.out 0).trans rfl; have hcz20_1 : w17.cell? ⟨gb407, 1, none⟩ = some (.int .i64 x408001_1) := (blk_cell BK407.out 1).trans rfl; have hcz20_2 : w17.cell? ⟨gb407, 2, none⟩ = some (.int .i64 x408002_1) := (blk_cell BK407.out 2).trans rfl; have hcz20_3 : w17.cell? ⟨gb407, 3, none⟩ = some (.int .i64 x408003_1) := (blk_cell BK407.out 3).trans rfl; have hcz20_4 : w17.cell? ⟨gb407, 4, none⟩ = some (.int .i64 x408004_1) := (blk_cell BK407.out 4).trans rfl; have hcz20_5 : w17.cell? ⟨gb407, 5, none⟩ = some (.int .i64 x408005_1) := (blk_cell BK407.out 5).trans rfl; have hcz20_6 : w17.cell? ⟨gb407, 6, none⟩ = some (.int .i64 x408006_1) := (blk_cell BK407.out 6).trans rfl; have hcz20_7 : w17.cell? ⟨gb407, 7, none⟩ = some (.int .i64 x408007_1) := (blk_cell BK407.out 7).trans rfl; have hfz20_0 := blk_frozen BK407.out 0; have hfz20_1 := blk_frozen BK407.out 1; have hfz20_2 := blk_frozen BK407.out 2; have hfz20_3 := blk_frozen BK407.out 3; have hfz20_4 := blk_frozen BK407.out 4; have hfz20_5 := blk_frozen BK407.out 5; have hfz20_6 := blk_frozen BK407.out 6; have hfz20_7 := blk_frozen BK407.out 7))
            have n0_ := Aside0.mk (blk_drew BK394.out)
            have n1_ := Aside0.mk (blk_drew BK407.out)
            have n2_ := Aside0.mk (IsS100.drew HI397.out)
            have n3_ := Aside0.mk (below_drew1 HB.out)
            clear BK394
            clear BK407
            clear HI397
            clear HB
            have BK394 := n0_
            have BK407 := n1_
            have HI397 := n2_
            have HB := n3_
            clear n0_ n1_ n2_ n3_
            refine start_ (n := 10) (S := fun w' => w'.cell? ⟨gb407, 0, none⟩ = some (.int .i64 x408000_1) ∧ w'.cell? ⟨gb407, 1, none⟩ = some (.int .i64 x408001_1) ∧ w'.cell? ⟨gb407, 2, none⟩ = some (.int .i64 x408002_1) ∧ w'.cell? ⟨gb407, 3, none⟩ = some (.int .i64 x408003_1) ∧ w'.cell? ⟨gb407, 4, none⟩ = some (.int .i64 x408004_1) ∧ w'.cell? ⟨gb407, 5, none⟩ = some (.int .i64 x408005_1) ∧ w'.cell? ⟨gb407, 6, none⟩ = some (.int .i64 x408006_1) ∧ w'.cell? ⟨gb407, 7, none⟩ = some (.int .i64 x408007_1)) (ds := []) #[false, false, false, false, false, false, false, false, false, false] (by kernel_rfl) rfl rfl ⟨(blk_cell BK407.out 0).trans rfl, (blk_cell BK407.out 1).trans rfl, (blk_cell BK407.out 2).trans rfl, (blk_cell BK407.out 3).trans rfl, (blk_cell BK407.out 4).trans rfl, (blk_cell BK407.out 5).trans rfl, (blk_cell BK407.out 6).trans rfl, (blk_cell BK407.out 7).trans rfl⟩ (fun hHeld => ?_); refine with_tabW spec_DrawRecBack.tab7 spec_DrawRecBack.bits7 (fun HT_ HW_ => ?_)
            generalize w17.drew = w21 at BK394 BK407 HI397 HB hHeld ⊢
            refine pure_ (i := 1) (N := some 33) (v := ?_) (a' := ?_) #[false, true, false, false, false, false, false, false, false, false] rfl rfl (any_of HT_.out (by kernel_rfl)) (fun _ _ _ h => h) (Or.inl ⟨by rfl, ?_⟩) ?_ ?_
            rotate_left
            · intro w'
              go_simp
              with_reducible rfl
            rotate_left
            · simp only [Act.put, List.setIfInBounds_toArray, List.set_cons_zero, List.set_cons_succ, i64_w, i32_w]
              rfl
            refine pure_ (i := 3) (N := some 35) (v := ?_) (a' := ?_) #[false, true, false, true, false, false, false, false, false, false] rfl rfl (any_of HT_.out (by kernel_rfl)) (fun _ _ _ h => h) (Or.inl ⟨by rfl, ?_⟩) ?_ ?_
            rotate_left
            · intro w'
              go_simp
              with_reducible rfl
            rotate_left
            · simp only [Act.put, List.setIfInBounds_toArray, List.set_cons_zero, List.set_cons_succ, i64_w, i32_w]
              rfl
            refine take_ (i := 0) (N := some 32) (v := ?_) (a' := ?_) #[true, true, false, true, false, false, false, false, false, false] rfl rfl (take_ofW HT_.out HW_.out (by kernel_rfl)) (fun _ _ _ h => h) (Or.inl ⟨by rfl, ?_⟩) hHeld ?_ ?_
            rotate_left
            · rintro w' ⟨s0, s1, s2, s3, s4, s5, s6, s7⟩
              go_simp
              with_reducible rfl
            rotate_left
            · simp only [Act.put, List.setIfInBounds_toArray, List.set_cons_zero, List.set_cons_succ, i64_w, i32_w]
              rfl
            refine one_ (i := 2) (N := some 34) #[true, true, true, true, false, false, false, false, false, false] rfl rfl (one_of HT_.out (by kernel_rfl)) (by decide) (fun K hK => ?_)
            refine goes_ Try.func93 (by kernel_rfl) rfl #[.pointer (some ⟨g397, 0, none⟩), .int .i64 12] (by rfl) rfl rfl (by (try simp only [List.map_toArray, List.map_cons, List.map_nil]); first | done | rfl | (simp only [List.length_drop, List.length_take]; rfl)) ?_
            with_reducible refine (spec_l6Rd_pick.calls k1 g397 t395 t409 12 t410 t411 w _ ?side1 ?side2 A15.out).mono ?_
            (case side1 => repeat (first | (with_reducible first | exact HI397.out | apply IsS100.alloc | apply IsS100.drewN | apply IsS100.drew | apply IsS100.set_1 | refine IsS100.far ?_ NB397_394.out _ | refine IsS100.far ?_ NB397_407.out _) | exact HI397.out))
            (case side2 => repeat (first | (with_reducible first | exact HB.out | apply below_alloc | apply pw_below_drewN | apply below_drew1 | refine below_set ?_ (IsS100.ge HI397.out) | refine below_set ?_ GE394.out | refine below_set ?_ GE407.out) | exact HB.out))
            rintro e w22 ⟨rfl, hi, hb, hk⟩
            refine ⟨_, rfl, ?_⟩
            have n0_ := Aside0.mk (KeepBut.blk hk (g' := gb394) (o := .cells #[.int .i64 0, .int .i64 0, .int .i64 0, .int .i64 0, .int .i64 0, .int .i64 0, .int .i64 0, .int .i64 0] 25 (0, 0)) (by (with_reducible repeat (first | refine blk_drewN ?_ _ | refine blk_drew ?_ | refine blk_alloc ?_ _)); exact BK394.out) NB394_397.out (by simp))
            have n1_ := Aside0.mk (KeepBut.blk hk (g' := gb407) (o := .cells #[.int .i64 x408000_1, .int .i64 x408001_1, .int .i64 x408002_1, .int .i64 x408003_1, .int .i64 x408004_1, .int .i64 x408005_1, .int .i64 x408006_1, .int .i64 x408007_1] 25 (0, 0)) (by (with_reducible repeat (first | refine blk_drewN ?_ _ | refine blk_drew ?_ | refine blk_alloc ?_ _)); exact BK407.out) NB407_397.out (by simp))
            have n2_ := Aside0.mk (hb)
            have n3_ := Aside0.mk (hi)
            clear BK394
            clear BK407
            clear HB
            clear HI397
            have BK394 := n0_
            have BK407 := n1_
            have HB := n2_
            have HI397 := n3_
            clear n0_ n1_ n2_ n3_
            (try clear hb)
            (try clear hb2)
            (try clear hk)
            (try clear hi)
            refine hK.out _ _ ⟨(blk_cell BK407.out 0).trans rfl, (blk_cell BK407.out 1).trans rfl, (blk_cell BK407.out 2).trans rfl, (blk_cell BK407.out 3).trans rfl, (blk_cell BK407.out 4).trans rfl, (blk_cell BK407.out 5).trans rfl, (blk_cell BK407.out 6).trans rfl, (blk_cell BK407.out 7).trans rfl⟩ (fun hHeld => ?_)
            clear hK K
            refine norm_ (a' := ?_) ?_ ?_
            rotate_left
            · show Act.put _ (some 34) _ = _
              simp only [Act.put, List.setIfInBounds_toArray, List.set_cons_zero, List.set_cons_succ, i64_w, i32_w]
              rfl
            refine one_ (i := 4) (N := some 36) #[true, true, true, true, true, false, false, false, false, false] rfl rfl (one_of HT_.out (by kernel_rfl)) (by decide) (fun K hK => ?_)
            refine goes_ Try.func93 (by kernel_rfl) rfl #[.pointer (some ⟨g397, 0, none⟩), .int .i64 24] (by rfl) rfl rfl (by (try simp only [List.map_toArray, List.map_cons, List.map_nil]); first | done | rfl | (simp only [List.length_drop, List.length_take]; rfl)) ?_
            with_reducible refine (spec_l6Rd_pick.calls k1 g397 t395 t411 24 t412 t413 w _ ?side1 ?side2 A16.out).mono ?_
            (case side1 => repeat (first | (with_reducible first | exact HI397.out | apply IsS100.alloc | apply IsS100.drewN | apply IsS100.drew | apply IsS100.set_1 | refine IsS100.far ?_ NB397_394.out _ | refine IsS100.far ?_ NB397_407.out _) | exact HI397.out))
            (case side2 => repeat (first | (with_reducible first | exact HB.out | apply below_alloc | apply pw_below_drewN | apply below_drew1 | refine below_set ?_ (IsS100.ge HI397.out) | refine below_set ?_ GE394.out | refine below_set ?_ GE407.out) | exact HB.out))
            rintro e w23 ⟨rfl, hi, hb, hk⟩
            refine ⟨_, rfl, ?_⟩
            have n0_ := Aside0.mk (KeepBut.blk hk (g' := gb394) (o := .cells #[.int .i64 0, .int .i64 0, .int .i64 0, .int .i64 0, .int .i64 0, .int .i64 0, .int .i64 0, .int .i64 0] 25 (0, 0)) (by (with_reducible repeat (first | refine blk_drewN ?_ _ | refine blk_drew ?_ | refine blk_alloc ?_ _)); exact BK394.out) NB394_397.out (by simp))
            have n1_ := Aside0.mk (KeepBut.blk hk (g' := gb407) (o := .cells #[.int .i64 x408000_1, .int .i64 x408001_1, .int .i64 x408002_1, .int .i64 x408003_1, .int .i64 x408004_1, .int .i64 x408005_1, .int .i64 x408006_1, .int .i64 x408007_1] 25 (0, 0)) (by (with_reducible repeat (first | refine blk_drewN ?_ _ | refine blk_drew ?_ | refine blk_alloc ?_ _)); exact BK407.out) NB407_397.out (by simp))
            have n2_ := Aside0.mk (hb)
            have n3_ := Aside0.mk (hi)
            clear BK394
            clear BK407
            clear HB
            clear HI397
            have BK394 := n0_
            have BK407 := n1_
            have HB := n2_
            have HI397 := n3_
            clear n0_ n1_ n2_ n3_
            (try clear hb)
            (try clear hb2)
            (try clear hk)
            (try clear hi)
            refine hK.out _ _ ⟨(blk_cell BK407.out 0).trans rfl, (blk_cell BK407.out 1).trans rfl, (blk_cell BK407.out 2).trans rfl, (blk_cell BK407.out 3).trans rfl, (blk_cell BK407.out 4).trans rfl, (blk_cell BK407.out 5).trans rfl, (blk_cell BK407.out 6).trans rfl, (blk_cell BK407.out 7).trans rfl⟩ (fun hHeld => ?_)
            clear hK K
            refine norm_ (a' := ?_) ?_ ?_
            rotate_left
            · show Act.put _ (some 36) _ = _
              simp only [Act.put, List.setIfInBounds_toArray, List.set_cons_zero, List.set_cons_succ, i64_w, i32_w]
              rfl
            refine pure_ (i := 5) (N := some 37) (v := ?_) (a' := ?_) #[true, true, true, true, true, true, false, false, false, false] rfl rfl (any_of HT_.out (by kernel_rfl)) (fun _ _ _ h => h) (Or.inl ⟨by rfl, ?_⟩) ?_ ?_
            rotate_left
            · intro w'
              go_simp
              with_reducible rfl
            rotate_left
            · simp only [Act.put, List.setIfInBounds_toArray, List.set_cons_zero, List.set_cons_succ, i64_w, i32_w]
              rfl
            refine pure_ (i := 6) (N := some 38) (v := ?_) (a' := ?_) #[true, true, true, true, true, true, true, false, false, false] rfl rfl (any_of HT_.out (by kernel_rfl)) (fun _ _ _ h => h) (Or.inl ⟨by rfl, ?_⟩) ?_ ?_
            rotate_left
            · intro w'
              go_simp
              with_reducible rfl
            rotate_left
            · simp only [Act.put, List.setIfInBounds_toArray, List.set_cons_zero, List.set_cons_succ, i64_w, i32_w]
              rfl
            refine pure_ (i := 7) (N := some 39) (v := ?_) (a' := ?_) #[true, true, true, true, true, true, true, true, false, false] rfl rfl (any_of HT_.out (by kernel_rfl)) (fun _ _ _ h => h) (Or.inl ⟨by rfl, ?_⟩) ?_ ?_
            rotate_left
            · intro w'
              go_simp
              with_reducible rfl
            rotate_left
            · simp only [Act.put, List.setIfInBounds_toArray, List.set_cons_zero, List.set_cons_succ, i64_w, i32_w]
              rfl
            refine one_ (i := 8) (N := none) #[true, true, true, true, true, true, true, true, true, false] rfl rfl (one_of HT_.out (by kernel_rfl)) (by decide) (fun K hK => ?_)
            have hs24 : w23.cell? ⟨gb394, 0, none⟩ = some (.int .i64 0) := (blk_cell BK394.out 0).trans rfl
            have hfs24 := blk_frozen BK394.out 0
            have hns24_1 := NB407_394.out
            have hms24_1 := NB394_407.out
            have hs25 : w23.cell? ⟨gb394, 1, none⟩ = some (.int .i64 0) := (blk_cell BK394.out 1).trans rfl
            have hfs25 := blk_frozen BK394.out 1
            have hns25_1 := NB407_394.out
            have hms25_1 := NB394_407.out
            have hs26 : w23.cell? ⟨gb394, 2, none⟩ = some (.int .i64 0) := (blk_cell BK394.out 2).trans rfl
            have hfs26 := blk_frozen BK394.out 2
            have hns26_1 := NB407_394.out
            have hms26_1 := NB394_407.out
            have hs27 : w23.cell? ⟨gb394, 3, none⟩ = some (.int .i64 0) := (blk_cell BK394.out 3).trans rfl
            have hfs27 := blk_frozen BK394.out 3
            have hns27_1 := NB407_394.out
            have hms27_1 := NB394_407.out
            have hs28 : w23.cell? ⟨gb394, 4, none⟩ = some (.int .i64 0) := (blk_cell BK394.out 4).trans rfl
            have hfs28 := blk_frozen BK394.out 4
            have hns28_1 := NB407_394.out
            have hms28_1 := NB394_407.out
            have hs29 : w23.cell? ⟨gb394, 5, none⟩ = some (.int .i64 0) := (blk_cell BK394.out 5).trans rfl
            have hfs29 := blk_frozen BK394.out 5
            have hns29_1 := NB407_394.out
            have hms29_1 := NB394_407.out
            have hs30 : w23.cell? ⟨gb394, 6, none⟩ = some (.int .i64 0) := (blk_cell BK394.out 6).trans rfl
            have hfs30 := blk_frozen BK394.out 6
            have hns30_1 := NB407_394.out
            have hms30_1 := NB394_407.out
            have hs31 : w23.cell? ⟨gb394, 7, none⟩ = some (.int .i64 0) := (blk_cell BK394.out 7).trans rfl
            have hfs31 := blk_frozen BK394.out 7
            have hns31_1 := NB407_394.out
            have hms31_1 := NB394_407.out
            refine skip_ (w1 := ?_) (by rfl) rfl ?_ ?_
            rotate_left
            · go_simp
              rfl
            refine hK.out _ _ ⟨((cell_far (p := ⟨gb394, _, none⟩) NB407_394.out _).trans (((cell_far (p := ⟨gb394, _, none⟩) NB407_394.out _).trans (((cell_far (p := ⟨gb394, _, none⟩) NB407_394.out _).trans (((cell_far (p := ⟨gb394, _, none⟩) NB407_394.out _).trans (((cell_far (p := ⟨gb394, _, none⟩) NB407_394.out _).trans (((cell_far (p := ⟨gb394, _, none⟩) NB407_394.out _).trans (((cell_far (p := ⟨gb394, _, none⟩) NB407_394.out _).trans (((cell_far (p := ⟨gb394, _, none⟩) NB407_394.out _).trans (hHeld.1)))))))))))))))), ((cell_far (p := ⟨gb394, _, none⟩) NB407_394.out _).trans (((cell_far (p := ⟨gb394, _, none⟩) NB407_394.out _).trans (((cell_far (p := ⟨gb394, _, none⟩) NB407_394.out _).trans (((cell_far (p := ⟨gb394, _, none⟩) NB407_394.out _).trans (((cell_far (p := ⟨gb394, _, none⟩) NB407_394.out _).trans (((cell_far (p := ⟨gb394, _, none⟩) NB407_394.out _).trans (((cell_far (p := ⟨gb394, _, none⟩) NB407_394.out _).trans (((cell_far (p := ⟨gb394, _, none⟩) NB407_394.out _).trans (hHeld.2.1)))))))))))))))), ((cell_far (p := ⟨gb394, _, none⟩) NB407_394.out _).trans (((cell_far (p := ⟨gb394, _, none⟩) NB407_394.out _).trans (((cell_far (p := ⟨gb394, _, none⟩) NB407_394.out _).trans (((cell_far (p := ⟨gb394, _, none⟩) NB407_394.out _).trans (((cell_far (p := ⟨gb394, _, none⟩) NB407_394.out _).trans (((cell_far (p := ⟨gb394, _, none⟩) NB407_394.out _).trans (((cell_far (p := ⟨gb394, _, none⟩) NB407_394.out _).trans (((cell_far (p := ⟨gb394, _, none⟩) NB407_394.out _).trans (hHeld.2.2.1)))))))))))))))), ((cell_far (p := ⟨gb394, _, none⟩) NB407_394.out _).trans (((cell_far (p := ⟨gb394, _, none⟩) NB407_394.out _).trans (((cell_far (p := ⟨gb394, _, none⟩) NB407_394.out _).trans (((cell_far (p := ⟨gb394, _, none⟩) NB407_394.out _).trans (((cell_far (p := ⟨gb394, _, none⟩) NB407_394.out _).trans (((cell_far (p := ⟨gb394, _, none⟩) NB407_394.out _).trans (((cell_far (p := ⟨gb394, _, none⟩) NB407_394.out _).trans (((cell_far (p := ⟨gb394, _, none⟩) NB407_394.out _).trans (hHeld.2.2.2.1)))))))))))))))), ((cell_far (p := ⟨gb394, _, none⟩) NB407_394.out _).trans (((cell_far (p := ⟨gb394, _, none⟩) NB407_394.out _).trans (((cell_far (p := ⟨gb394, _, none⟩) NB407_394.out _).trans (((cell_far (p := ⟨gb394, _, none⟩) NB407_394.out _).trans (((cell_far (p := ⟨gb394, _, none⟩) NB407_394.out _).trans (((cell_far (p := ⟨gb394, _, none⟩) NB407_394.out _).trans (((cell_far (p := ⟨gb394, _, none⟩) NB407_394.out _).trans (((cell_far (p := ⟨gb394, _, none⟩) NB407_394.out _).trans (hHeld.2.2.2.2.1)))))))))))))))), ((cell_far (p := ⟨gb394, _, none⟩) NB407_394.out _).trans (((cell_far (p := ⟨gb394, _, none⟩) NB407_394.out _).trans (((cell_far (p := ⟨gb394, _, none⟩) NB407_394.out _).trans (((cell_far (p := ⟨gb394, _, none⟩) NB407_394.out _).trans (((cell_far (p := ⟨gb394, _, none⟩) NB407_394.out _).trans (((cell_far (p := ⟨gb394, _, none⟩) NB407_394.out _).trans (((cell_far (p := ⟨gb394, _, none⟩) NB407_394.out _).trans (((cell_far (p := ⟨gb394, _, none⟩) NB407_394.out _).trans (hHeld.2.2.2.2.2.1)))))))))))))))), ((cell_far (p := ⟨gb394, _, none⟩) NB407_394.out _).trans (((cell_far (p := ⟨gb394, _, none⟩) NB407_394.out _).trans (((cell_far (p := ⟨gb394, _, none⟩) NB407_394.out _).trans (((cell_far (p := ⟨gb394, _, none⟩) NB407_394.out _).trans (((cell_far (p := ⟨gb394, _, none⟩) NB407_394.out _).trans (((cell_far (p := ⟨gb394, _, none⟩) NB407_394.out _).trans (((cell_far (p := ⟨gb394, _, none⟩) NB407_394.out _).trans (((cell_far (p := ⟨gb394, _, none⟩) NB407_394.out _).trans (hHeld.2.2.2.2.2.2.1)))))))))))))))), ((cell_far (p := ⟨gb394, _, none⟩) NB407_394.out _).trans (((cell_far (p := ⟨gb394, _, none⟩) NB407_394.out _).trans (((cell_far (p := ⟨gb394, _, none⟩) NB407_394.out _).trans (((cell_far (p := ⟨gb394, _, none⟩) NB407_394.out _).trans (((cell_far (p := ⟨gb394, _, none⟩) NB407_394.out _).trans (((cell_far (p := ⟨gb394, _, none⟩) NB407_394.out _).trans (((cell_far (p := ⟨gb394, _, none⟩) NB407_394.out _).trans (((cell_far (p := ⟨gb394, _, none⟩) NB407_394.out _).trans (hHeld.2.2.2.2.2.2.2))))))))))))))))⟩ (fun hHeld => ?_)
            clear hK K
            refine pure_ (i := 9) (N := some 3) (v := ?_) (a' := ?_) #[true, true, true, true, true, true, true, true, true, true] rfl rfl (any_of HT_.out (by kernel_rfl)) (fun _ _ _ h => h) (Or.inl ⟨by rfl, ?_⟩) ?_ ?_
            rotate_left
            · intro w'
              go_simp
              with_reducible rfl
            rotate_left
            · simp only [Act.put, List.setIfInBounds_toArray, List.set_cons_zero, List.set_cons_succ, i64_w, i32_w]
              rfl
            refine done_ (done_of HT_.out (by kernel_rfl)) ?_
            try go_wp2
            refine bodyPost_ret (results_ct rfl _ _ gb394 25 #[.int .i64 x408000_1, .int .i64 x408001_1, .int .i64 x408002_1, .int .i64 x408003_1, .int .i64 x408004_1, .int .i64 x408005_1, .int .i64 x408006_1, .int .i64 x408007_1] (0, 0) _ rfl (by (with_reducible repeat (first | refine blk_drewN ?_ _ | refine blk_drew ?_ | refine blk_alloc ?_ _)); refine blk_put (cs := #[.int .i64 x408000_1, .int .i64 x408001_1, .int .i64 x408002_1, .int .i64 x408003_1, .int .i64 x408004_1, .int .i64 x408005_1, .int .i64 x408006_1, .int .i64 0]) ?_ 7 _ rfl; (with_reducible repeat (first | refine blk_drewN ?_ _ | refine blk_drew ?_ | refine blk_alloc ?_ _)); refine blk_put (cs := #[.int .i64 x408000_1, .int .i64 x408001_1, .int .i64 x408002_1, .int .i64 x408003_1, .int .i64 x408004_1, .int .i64 x408005_1, .int .i64 0, .int .i64 0]) ?_ 6 _ rfl; (with_reducible repeat (first | refine blk_drewN ?_ _ | refine blk_drew ?_ | refine blk_alloc ?_ _)); refine blk_put (cs := #[.int .i64 x408000_1, .int .i64 x408001_1, .int .i64 x408002_1, .int .i64 x408003_1, .int .i64 x408004_1, .int .i64 0, .int .i64 0, .int .i64 0]) ?_ 5 _ rfl; (with_reducible repeat (first | refine blk_drewN ?_ _ | refine blk_drew ?_ | refine blk_alloc ?_ _)); refine blk_put (cs := #[.int .i64 x408000_1, .int .i64 x408001_1, .int .i64 x408002_1, .int .i64 x408003_1, .int .i64 0, .int .i64 0, .int .i64 0, .int .i64 0]) ?_ 4 _ rfl; (with_reducible repeat (first | refine blk_drewN ?_ _ | refine blk_drew ?_ | refine blk_alloc ?_ _)); refine blk_put (cs := #[.int .i64 x408000_1, .int .i64 x408001_1, .int .i64 x408002_1, .int .i64 0, .int .i64 0, .int .i64 0, .int .i64 0, .int .i64 0]) ?_ 3 _ rfl; (with_reducible repeat (first | refine blk_drewN ?_ _ | refine blk_drew ?_ | refine blk_alloc ?_ _)); refine blk_put (cs := #[.int .i64 x408000_1, .int .i64 x408001_1, .int .i64 0, .int .i64 0, .int .i64 0, .int .i64 0, .int .i64 0, .int .i64 0]) ?_ 2 _ rfl; (with_reducible repeat (first | refine blk_drewN ?_ _ | refine blk_drew ?_ | refine blk_alloc ?_ _)); refine blk_put (cs := #[.int .i64 x408000_1, .int .i64 0, .int .i64 0, .int .i64 0, .int .i64 0, .int .i64 0, .int .i64 0, .int .i64 0]) ?_ 1 _ rfl; (with_reducible repeat (first | refine blk_drewN ?_ _ | refine blk_drew ?_ | refine blk_alloc ?_ _)); refine blk_put (cs := #[.int .i64 0, .int .i64 0, .int .i64 0, .int .i64 0, .int .i64 0, .int .i64 0, .int .i64 0, .int .i64 0]) ?_ 0 _ rfl; (with_reducible repeat (first | refine blk_drewN ?_ _ | refine blk_drew ?_ | refine blk_alloc ?_ _)); exact BK394.out) Try.underlying25 rfl (by kernel_rfl)) rfl ?_
            exact ⟨by first | rfl | (simp [errW_none, errW_some] <;> rfl) | (simp [*, errW_none, errW_some] <;> rfl), by repeat (first | (with_reducible first | exact HB.out | apply below_alloc | apply pw_below_drewN | apply below_drew1 | refine below_set ?_ (IsS100.ge HI397.out) | refine below_set ?_ GE394.out | refine below_set ?_ GE407.out) | exact HB.out)⟩
          · rw [if_neg c14] at H
            have c14b0 : (x408000_1 == 1) = false := beq_eq_false_iff_ne.mpr c14
            have c14b1 : (x408000_1 != 1) = true := bne_iff_ne.mpr c14
            by_cases c32 : x408000_1 = 2
            · rw [if_pos c32] at H
              have c32b0 : (x408000_1 == 2) = true := beq_iff_eq.mpr c32
              have c32b1 : (x408000_1 != 2) = false := bne_eq_false_iff_eq.mpr c32
              clear c32
              replace H := Option.bind_eq_some_iff.mp H
              obtain ⟨⟨t414, t415⟩, A330, H⟩ := H
              replace H : ((spec_l6Rd_pick.f k1 t395 t415 24).bind fun bt416 => (some (x408000_1, x408001_1, x408002_1, x408003_1, x408004_1, x408005_1, x408006_1, x408007_1, wrap64 (t414 - (wrap64 ((wrap64 (Int.tdiv bt416.1 23)) * 13)))))) = some (r1, r2, r3, r4, r5, r6, r7, r8, r9) := H
              have A33 := Aside0.mk A330
              clear A330
              replace H := Option.bind_eq_some_iff.mp H
              obtain ⟨⟨t416, t417⟩, A340, H⟩ := H
              replace H : (some (x408000_1, x408001_1, x408002_1, x408003_1, x408004_1, x408005_1, x408006_1, x408007_1, wrap64 (t414 - (wrap64 ((wrap64 (Int.tdiv t416 23)) * 13))))) = some (r1, r2, r3, r4, r5, r6, r7, r8, r9) := H
              have A34 := Aside0.mk A340
              clear A340
              simp only [Option.some.injEq, Prod.mk.injEq] at H
              obtain ⟨rfl, rfl, rfl, rfl, rfl, rfl, rfl, rfl, rfl⟩ := H
              try go_wp2_with (first | (go_at_call 93; (with_reducible refine (spec_l6Rd_pick.calls k1 g397 t395 x398001_1 8 t408 t409 w _ ?side1 ?side2 A12.out).mono ?_); (case side1 => repeat (first | (with_reducible first | exact HI397.out | apply IsS100.alloc | apply IsS100.drewN | apply IsS100.drew | apply IsS100.set_1 | refine IsS100.far ?_ NB397_394.out _ | refine IsS100.far ?_ NB397_407.out _) | exact HI397.out)); (case side2 => repeat (first | (with_reducible first | exact HB.out | apply below_alloc | apply pw_below_drewN | apply below_drew1 | refine below_set ?_ (IsS100.ge HI397.out) | refine below_set ?_ GE394.out | refine below_set ?_ GE407.out) | exact HB.out)); rintro e w35 ⟨rfl, hi, hb, hk⟩; have n0_ := Aside0.mk (KeepBut.blk hk (g' := gb394) (o := .cells #[.int .i64 0, .int .i64 0, .int .i64 0, .int .i64 0, .int .i64 0, .int .i64 0, .int .i64 0, .int .i64 0] 25 (0, 0)) (by (with_reducible repeat (first | refine blk_drewN ?_ _ | refine blk_drew ?_ | refine blk_alloc ?_ _)); exact BK394.out) NB394_397.out (by simp)); have n1_ := Aside0.mk (KeepBut.blk hk (g' := gb407) (o := .cells #[.int .i64 x408000_1, .int .i64 x408001_1, .int .i64 x408002_1, .int .i64 x408003_1, .int .i64 x408004_1, .int .i64 x408005_1, .int .i64 x408006_1, .int .i64 x408007_1] 25 (0, 0)) (by (with_reducible repeat (first | refine blk_drewN ?_ _ | refine blk_drew ?_ | refine blk_alloc ?_ _)); exact BK407.out) NB407_397.out (by simp)); have n2_ := Aside0.mk (hb); have n3_ := Aside0.mk (hi); clear BK394; clear BK407; clear HB; clear HI397; have BK394 := n0_; have BK407 := n1_; have HB := n2_; have HI397 := n3_; clear n0_ n1_ n2_ n3_; (try clear hb); (try clear hb2); (try clear hk); (try clear hi); have hnb36 := NB407_394.out; have hnc36 := NB394_407.out; have hnb37 := NB407_397.out; have hnc37 := NB397_407.out; have hcz38_0 : w35.cell? ⟨gb407, 0, none⟩ = some (.int .i64 x408000_1) := (blk_cell BK407.out 0).trans rfl; have hcz38_1 : w35.cell? ⟨gb407, 1, none⟩ = some (.int .i64 x408001_1) := (blk_cell BK407.out 1).trans rfl; have hcz38_2 : w35.cell? ⟨gb407, 2, none⟩ = some (.int .i64 x408002_1) := (blk_cell BK407.out 2).trans rfl; have hcz38_3 : w35.cell? ⟨gb407, 3, none⟩ = some (.int .i64 x408003_1) := (blk_cell BK407.out 3).trans rfl; have hcz38_4 : w35.cell? ⟨gb407, 4, none⟩ = some (.int .i64 x408004_1) := (blk_cell BK407.out 4).trans rfl; have hcz38_5 : w35.cell? ⟨gb407, 5, none⟩ = some (.int .i64 x408005_1) := (blk_cell BK407.out 5).trans rfl; have hcz38_6 : w35.cell? ⟨gb407, 6, none⟩ = some (.int .i64 x408006_1) := (blk_cell BK407.out 6).trans rfl; have hcz38_7 : w35.cell? ⟨gb407, 7, none⟩ = some (.int .i64 x408007_1) := (blk_cell BK407.out 7).trans rfl; have hfz38_0 := blk_frozen BK407.out 0; have hfz38_1 := blk_frozen BK407.out 1; have hfz38_2 := blk_frozen BK407.out 2; have hfz38_3 := blk_frozen BK407.out 3; have hfz38_4 := blk_frozen BK407.out 4; have hfz38_5 := blk_frozen BK407.out 5; have hfz38_6 := blk_frozen BK407.out 6; have hfz38_7 := blk_frozen BK407.out 7))
              have n0_ := Aside0.mk (blk_drew BK394.out)
              have n1_ := Aside0.mk (blk_drew BK407.out)
              have n2_ := Aside0.mk (IsS100.drew HI397.out)
              have n3_ := Aside0.mk (below_drew1 HB.out)
              clear BK394
              clear BK407
              clear HI397
              clear HB
              have BK394 := n0_
              have BK407 := n1_
              have HI397 := n2_
              have HB := n3_
              clear n0_ n1_ n2_ n3_
              refine start_ (n := 10) (S := fun w' => w'.cell? ⟨gb407, 0, none⟩ = some (.int .i64 x408000_1) ∧ w'.cell? ⟨gb407, 1, none⟩ = some (.int .i64 x408001_1) ∧ w'.cell? ⟨gb407, 2, none⟩ = some (.int .i64 x408002_1) ∧ w'.cell? ⟨gb407, 3, none⟩ = some (.int .i64 x408003_1) ∧ w'.cell? ⟨gb407, 4, none⟩ = some (.int .i64 x408004_1) ∧ w'.cell? ⟨gb407, 5, none⟩ = some (.int .i64 x408005_1) ∧ w'.cell? ⟨gb407, 6, none⟩ = some (.int .i64 x408006_1) ∧ w'.cell? ⟨gb407, 7, none⟩ = some (.int .i64 x408007_1)) (ds := []) #[false, false, false, false, false, false, false, false, false, false] (by kernel_rfl) rfl rfl ⟨(blk_cell BK407.out 0).trans rfl, (blk_cell BK407.out 1).trans rfl, (blk_cell BK407.out 2).trans rfl, (blk_cell BK407.out 3).trans rfl, (blk_cell BK407.out 4).trans rfl, (blk_cell BK407.out 5).trans rfl, (blk_cell BK407.out 6).trans rfl, (blk_cell BK407.out 7).trans rfl⟩ (fun hHeld => ?_); refine with_tabW spec_DrawRecBack.tab7 spec_DrawRecBack.bits7 (fun HT_ HW_ => ?_)
              generalize w35.drew = w39 at BK394 BK407 HI397 HB hHeld ⊢
              refine pure_ (i := 1) (N := some 33) (v := ?_) (a' := ?_) #[false, true, false, false, false, false, false, false, false, false] rfl rfl (any_of HT_.out (by kernel_rfl)) (fun _ _ _ h => h) (Or.inl ⟨by rfl, ?_⟩) ?_ ?_
              rotate_left
              · intro w'
                go_simp
                with_reducible rfl
              rotate_left
              · simp only [Act.put, List.setIfInBounds_toArray, List.set_cons_zero, List.set_cons_succ, i64_w, i32_w]
                rfl
              refine pure_ (i := 3) (N := some 35) (v := ?_) (a' := ?_) #[false, true, false, true, false, false, false, false, false, false] rfl rfl (any_of HT_.out (by kernel_rfl)) (fun _ _ _ h => h) (Or.inl ⟨by rfl, ?_⟩) ?_ ?_
              rotate_left
              · intro w'
                go_simp
                with_reducible rfl
              rotate_left
              · simp only [Act.put, List.setIfInBounds_toArray, List.set_cons_zero, List.set_cons_succ, i64_w, i32_w]
                rfl
              refine take_ (i := 0) (N := some 32) (v := ?_) (a' := ?_) #[true, true, false, true, false, false, false, false, false, false] rfl rfl (take_ofW HT_.out HW_.out (by kernel_rfl)) (fun _ _ _ h => h) (Or.inl ⟨by rfl, ?_⟩) hHeld ?_ ?_
              rotate_left
              · rintro w' ⟨s0, s1, s2, s3, s4, s5, s6, s7⟩
                go_simp
                with_reducible rfl
              rotate_left
              · simp only [Act.put, List.setIfInBounds_toArray, List.set_cons_zero, List.set_cons_succ, i64_w, i32_w]
                rfl
              refine one_ (i := 2) (N := some 34) #[true, true, true, true, false, false, false, false, false, false] rfl rfl (one_of HT_.out (by kernel_rfl)) (by decide) (fun K hK => ?_)
              refine goes_ Try.func93 (by kernel_rfl) rfl #[.pointer (some ⟨g397, 0, none⟩), .int .i64 12] (by rfl) rfl rfl (by (try simp only [List.map_toArray, List.map_cons, List.map_nil]); first | done | rfl | (simp only [List.length_drop, List.length_take]; rfl)) ?_
              with_reducible refine (spec_l6Rd_pick.calls k1 g397 t395 t409 12 t414 t415 w _ ?side1 ?side2 A33.out).mono ?_
              (case side1 => repeat (first | (with_reducible first | exact HI397.out | apply IsS100.alloc | apply IsS100.drewN | apply IsS100.drew | apply IsS100.set_1 | refine IsS100.far ?_ NB397_394.out _ | refine IsS100.far ?_ NB397_407.out _) | exact HI397.out))
              (case side2 => repeat (first | (with_reducible first | exact HB.out | apply below_alloc | apply pw_below_drewN | apply below_drew1 | refine below_set ?_ (IsS100.ge HI397.out) | refine below_set ?_ GE394.out | refine below_set ?_ GE407.out) | exact HB.out))
              rintro e w40 ⟨rfl, hi, hb, hk⟩
              refine ⟨_, rfl, ?_⟩
              have n0_ := Aside0.mk (KeepBut.blk hk (g' := gb394) (o := .cells #[.int .i64 0, .int .i64 0, .int .i64 0, .int .i64 0, .int .i64 0, .int .i64 0, .int .i64 0, .int .i64 0] 25 (0, 0)) (by (with_reducible repeat (first | refine blk_drewN ?_ _ | refine blk_drew ?_ | refine blk_alloc ?_ _)); exact BK394.out) NB394_397.out (by simp))
              have n1_ := Aside0.mk (KeepBut.blk hk (g' := gb407) (o := .cells #[.int .i64 x408000_1, .int .i64 x408001_1, .int .i64 x408002_1, .int .i64 x408003_1, .int .i64 x408004_1, .int .i64 x408005_1, .int .i64 x408006_1, .int .i64 x408007_1] 25 (0, 0)) (by (with_reducible repeat (first | refine blk_drewN ?_ _ | refine blk_drew ?_ | refine blk_alloc ?_ _)); exact BK407.out) NB407_397.out (by simp))
              have n2_ := Aside0.mk (hb)
              have n3_ := Aside0.mk (hi)
              clear BK394
              clear BK407
              clear HB
              clear HI397
              have BK394 := n0_
              have BK407 := n1_
              have HB := n2_
              have HI397 := n3_
              clear n0_ n1_ n2_ n3_
              (try clear hb)
              (try clear hb2)
              (try clear hk)
              (try clear hi)
              refine hK.out _ _ ⟨(blk_cell BK407.out 0).trans rfl, (blk_cell BK407.out 1).trans rfl, (blk_cell BK407.out 2).trans rfl, (blk_cell BK407.out 3).trans rfl, (blk_cell BK407.out 4).trans rfl, (blk_cell BK407.out 5).trans rfl, (blk_cell BK407.out 6).trans rfl, (blk_cell BK407.out 7).trans rfl⟩ (fun hHeld => ?_)
              clear hK K
              refine norm_ (a' := ?_) ?_ ?_
              rotate_left
              · show Act.put _ (some 34) _ = _
                simp only [Act.put, List.setIfInBounds_toArray, List.set_cons_zero, List.set_cons_succ, i64_w, i32_w]
                rfl
              refine one_ (i := 4) (N := some 36) #[true, true, true, true, true, false, false, false, false, false] rfl rfl (one_of HT_.out (by kernel_rfl)) (by decide) (fun K hK => ?_)
              refine goes_ Try.func93 (by kernel_rfl) rfl #[.pointer (some ⟨g397, 0, none⟩), .int .i64 24] (by rfl) rfl rfl (by (try simp only [List.map_toArray, List.map_cons, List.map_nil]); first | done | rfl | (simp only [List.length_drop, List.length_take]; rfl)) ?_
              with_reducible refine (spec_l6Rd_pick.calls k1 g397 t395 t415 24 t416 t417 w _ ?side1 ?side2 A34.out).mono ?_
              (case side1 => repeat (first | (with_reducible first | exact HI397.out | apply IsS100.alloc | apply IsS100.drewN | apply IsS100.drew | apply IsS100.set_1 | refine IsS100.far ?_ NB397_394.out _ | refine IsS100.far ?_ NB397_407.out _) | exact HI397.out))
              (case side2 => repeat (first | (with_reducible first | exact HB.out | apply below_alloc | apply pw_below_drewN | apply below_drew1 | refine below_set ?_ (IsS100.ge HI397.out) | refine below_set ?_ GE394.out | refine below_set ?_ GE407.out) | exact HB.out))
              rintro e w41 ⟨rfl, hi, hb, hk⟩
              refine ⟨_, rfl, ?_⟩
              have n0_ := Aside0.mk (KeepBut.blk hk (g' := gb394) (o := .cells #[.int .i64 0, .int .i64 0, .int .i64 0, .int .i64 0, .int .i64 0, .int .i64 0, .int .i64 0, .int .i64 0] 25 (0, 0)) (by (with_reducible repeat (first | refine blk_drewN ?_ _ | refine blk_drew ?_ | refine blk_alloc ?_ _)); exact BK394.out) NB394_397.out (by simp))
              have n1_ := Aside0.mk (KeepBut.blk hk (g' := gb407) (o := .cells #[.int .i64 x408000_1, .int .i64 x408001_1, .int .i64 x408002_1, .int .i64 x408003_1, .int .i64 x408004_1, .int .i64 x408005_1, .int .i64 x408006_1, .int .i64 x408007_1] 25 (0, 0)) (by (with_reducible repeat (first | refine blk_drewN ?_ _ | refine blk_drew ?_ | refine blk_alloc ?_ _)); exact BK407.out) NB407_397.out (by simp))
              have n2_ := Aside0.mk (hb)
              have n3_ := Aside0.mk (hi)
              clear BK394
              clear BK407
              clear HB
              clear HI397
              have BK394 := n0_
              have BK407 := n1_
              have HB := n2_
              have HI397 := n3_
              clear n0_ n1_ n2_ n3_
              (try clear hb)
              (try clear hb2)
              (try clear hk)
              (try clear hi)
              refine hK.out _ _ ⟨(blk_cell BK407.out 0).trans rfl, (blk_cell BK407.out 1).trans rfl, (blk_cell BK407.out 2).trans rfl, (blk_cell BK407.out 3).trans rfl, (blk_cell BK407.out 4).trans rfl, (blk_cell BK407.out 5).trans rfl, (blk_cell BK407.out 6).trans rfl, (blk_cell BK407.out 7).trans rfl⟩ (fun hHeld => ?_)
              clear hK K
              refine norm_ (a' := ?_) ?_ ?_
              rotate_left
              · show Act.put _ (some 36) _ = _
                simp only [Act.put, List.setIfInBounds_toArray, List.set_cons_zero, List.set_cons_succ, i64_w, i32_w]
                rfl
              refine pure_ (i := 5) (N := some 37) (v := ?_) (a' := ?_) #[true, true, true, true, true, true, false, false, false, false] rfl rfl (any_of HT_.out (by kernel_rfl)) (fun _ _ _ h => h) (Or.inl ⟨by rfl, ?_⟩) ?_ ?_
              rotate_left
              · intro w'
                go_simp
                with_reducible rfl
              rotate_left
              · simp only [Act.put, List.setIfInBounds_toArray, List.set_cons_zero, List.set_cons_succ, i64_w, i32_w]
                rfl
              refine pure_ (i := 6) (N := some 38) (v := ?_) (a' := ?_) #[true, true, true, true, true, true, true, false, false, false] rfl rfl (any_of HT_.out (by kernel_rfl)) (fun _ _ _ h => h) (Or.inl ⟨by rfl, ?_⟩) ?_ ?_
              rotate_left
              · intro w'
                go_simp
                with_reducible rfl
              rotate_left
              · simp only [Act.put, List.setIfInBounds_toArray, List.set_cons_zero, List.set_cons_succ, i64_w, i32_w]
                rfl
              refine pure_ (i := 7) (N := some 39) (v := ?_) (a' := ?_) #[true, true, true, true, true, true, true, true, false, false] rfl rfl (any_of HT_.out (by kernel_rfl)) (fun _ _ _ h => h) (Or.inl ⟨by rfl, ?_⟩) ?_ ?_
              rotate_left
              · intro w'
                go_simp
                with_reducible rfl
              rotate_left
              · simp only [Act.put, List.setIfInBounds_toArray, List.set_cons_zero, List.set_cons_succ, i64_w, i32_w]
                rfl
              refine one_ (i := 8) (N := none) #[true, true, true, true, true, true, true, true, true, false] rfl rfl (one_of HT_.out (by kernel_rfl)) (by decide) (fun K hK => ?_)
              have hs42 : w41.cell? ⟨gb394, 0, none⟩ = some (.int .i64 0) := (blk_cell BK394.out 0).trans rfl
              have hfs42 := blk_frozen BK394.out 0
              have hns42_1 := NB407_394.out
              have hms42_1 := NB394_407.out
              have hs43 : w41.cell? ⟨gb394, 1, none⟩ = some (.int .i64 0) := (blk_cell BK394.out 1).trans rfl
              have hfs43 := blk_frozen BK394.out 1
              have hns43_1 := NB407_394.out
              have hms43_1 := NB394_407.out
              have hs44 : w41.cell? ⟨gb394, 2, none⟩ = some (.int .i64 0) := (blk_cell BK394.out 2).trans rfl
              have hfs44 := blk_frozen BK394.out 2
              have hns44_1 := NB407_394.out
              have hms44_1 := NB394_407.out
              have hs45 : w41.cell? ⟨gb394, 3, none⟩ = some (.int .i64 0) := (blk_cell BK394.out 3).trans rfl
              have hfs45 := blk_frozen BK394.out 3
              have hns45_1 := NB407_394.out
              have hms45_1 := NB394_407.out
              have hs46 : w41.cell? ⟨gb394, 4, none⟩ = some (.int .i64 0) := (blk_cell BK394.out 4).trans rfl
              have hfs46 := blk_frozen BK394.out 4
              have hns46_1 := NB407_394.out
              have hms46_1 := NB394_407.out
              have hs47 : w41.cell? ⟨gb394, 5, none⟩ = some (.int .i64 0) := (blk_cell BK394.out 5).trans rfl
              have hfs47 := blk_frozen BK394.out 5
              have hns47_1 := NB407_394.out
              have hms47_1 := NB394_407.out
              have hs48 : w41.cell? ⟨gb394, 6, none⟩ = some (.int .i64 0) := (blk_cell BK394.out 6).trans rfl
              have hfs48 := blk_frozen BK394.out 6
              have hns48_1 := NB407_394.out
              have hms48_1 := NB394_407.out
              have hs49 : w41.cell? ⟨gb394, 7, none⟩ = some (.int .i64 0) := (blk_cell BK394.out 7).trans rfl
              have hfs49 := blk_frozen BK394.out 7
              have hns49_1 := NB407_394.out
              have hms49_1 := NB394_407.out
              refine skip_ (w1 := ?_) (by rfl) rfl ?_ ?_
              rotate_left
              · go_simp
                rfl
              refine hK.out _ _ ⟨((cell_far (p := ⟨gb394, _, none⟩) NB407_394.out _).trans (((cell_far (p := ⟨gb394, _, none⟩) NB407_394.out _).trans (((cell_far (p := ⟨gb394, _, none⟩) NB407_394.out _).trans (((cell_far (p := ⟨gb394, _, none⟩) NB407_394.out _).trans (((cell_far (p := ⟨gb394, _, none⟩) NB407_394.out _).trans (((cell_far (p := ⟨gb394, _, none⟩) NB407_394.out _).trans (((cell_far (p := ⟨gb394, _, none⟩) NB407_394.out _).trans (((cell_far (p := ⟨gb394, _, none⟩) NB407_394.out _).trans (hHeld.1)))))))))))))))), ((cell_far (p := ⟨gb394, _, none⟩) NB407_394.out _).trans (((cell_far (p := ⟨gb394, _, none⟩) NB407_394.out _).trans (((cell_far (p := ⟨gb394, _, none⟩) NB407_394.out _).trans (((cell_far (p := ⟨gb394, _, none⟩) NB407_394.out _).trans (((cell_far (p := ⟨gb394, _, none⟩) NB407_394.out _).trans (((cell_far (p := ⟨gb394, _, none⟩) NB407_394.out _).trans (((cell_far (p := ⟨gb394, _, none⟩) NB407_394.out _).trans (((cell_far (p := ⟨gb394, _, none⟩) NB407_394.out _).trans (hHeld.2.1)))))))))))))))), ((cell_far (p := ⟨gb394, _, none⟩) NB407_394.out _).trans (((cell_far (p := ⟨gb394, _, none⟩) NB407_394.out _).trans (((cell_far (p := ⟨gb394, _, none⟩) NB407_394.out _).trans (((cell_far (p := ⟨gb394, _, none⟩) NB407_394.out _).trans (((cell_far (p := ⟨gb394, _, none⟩) NB407_394.out _).trans (((cell_far (p := ⟨gb394, _, none⟩) NB407_394.out _).trans (((cell_far (p := ⟨gb394, _, none⟩) NB407_394.out _).trans (((cell_far (p := ⟨gb394, _, none⟩) NB407_394.out _).trans (hHeld.2.2.1)))))))))))))))), ((cell_far (p := ⟨gb394, _, none⟩) NB407_394.out _).trans (((cell_far (p := ⟨gb394, _, none⟩) NB407_394.out _).trans (((cell_far (p := ⟨gb394, _, none⟩) NB407_394.out _).trans (((cell_far (p := ⟨gb394, _, none⟩) NB407_394.out _).trans (((cell_far (p := ⟨gb394, _, none⟩) NB407_394.out _).trans (((cell_far (p := ⟨gb394, _, none⟩) NB407_394.out _).trans (((cell_far (p := ⟨gb394, _, none⟩) NB407_394.out _).trans (((cell_far (p := ⟨gb394, _, none⟩) NB407_394.out _).trans (hHeld.2.2.2.1)))))))))))))))), ((cell_far (p := ⟨gb394, _, none⟩) NB407_394.out _).trans (((cell_far (p := ⟨gb394, _, none⟩) NB407_394.out _).trans (((cell_far (p := ⟨gb394, _, none⟩) NB407_394.out _).trans (((cell_far (p := ⟨gb394, _, none⟩) NB407_394.out _).trans (((cell_far (p := ⟨gb394, _, none⟩) NB407_394.out _).trans (((cell_far (p := ⟨gb394, _, none⟩) NB407_394.out _).trans (((cell_far (p := ⟨gb394, _, none⟩) NB407_394.out _).trans (((cell_far (p := ⟨gb394, _, none⟩) NB407_394.out _).trans (hHeld.2.2.2.2.1)))))))))))))))), ((cell_far (p := ⟨gb394, _, none⟩) NB407_394.out _).trans (((cell_far (p := ⟨gb394, _, none⟩) NB407_394.out _).trans (((cell_far (p := ⟨gb394, _, none⟩) NB407_394.out _).trans (((cell_far (p := ⟨gb394, _, none⟩) NB407_394.out _).trans (((cell_far (p := ⟨gb394, _, none⟩) NB407_394.out _).trans (((cell_far (p := ⟨gb394, _, none⟩) NB407_394.out _).trans (((cell_far (p := ⟨gb394, _, none⟩) NB407_394.out _).trans (((cell_far (p := ⟨gb394, _, none⟩) NB407_394.out _).trans (hHeld.2.2.2.2.2.1)))))))))))))))), ((cell_far (p := ⟨gb394, _, none⟩) NB407_394.out _).trans (((cell_far (p := ⟨gb394, _, none⟩) NB407_394.out _).trans (((cell_far (p := ⟨gb394, _, none⟩) NB407_394.out _).trans (((cell_far (p := ⟨gb394, _, none⟩) NB407_394.out _).trans (((cell_far (p := ⟨gb394, _, none⟩) NB407_394.out _).trans (((cell_far (p := ⟨gb394, _, none⟩) NB407_394.out _).trans (((cell_far (p := ⟨gb394, _, none⟩) NB407_394.out _).trans (((cell_far (p := ⟨gb394, _, none⟩) NB407_394.out _).trans (hHeld.2.2.2.2.2.2.1)))))))))))))))), ((cell_far (p := ⟨gb394, _, none⟩) NB407_394.out _).trans (((cell_far (p := ⟨gb394, _, none⟩) NB407_394.out _).trans (((cell_far (p := ⟨gb394, _, none⟩) NB407_394.out _).trans (((cell_far (p := ⟨gb394, _, none⟩) NB407_394.out _).trans (((cell_far (p := ⟨gb394, _, none⟩) NB407_394.out _).trans (((cell_far (p := ⟨gb394, _, none⟩) NB407_394.out _).trans (((cell_far (p := ⟨gb394, _, none⟩) NB407_394.out _).trans (((cell_far (p := ⟨gb394, _, none⟩) NB407_394.out _).trans (hHeld.2.2.2.2.2.2.2))))))))))))))))⟩ (fun hHeld => ?_)
              clear hK K
              refine pure_ (i := 9) (N := some 3) (v := ?_) (a' := ?_) #[true, true, true, true, true, true, true, true, true, true] rfl rfl (any_of HT_.out (by kernel_rfl)) (fun _ _ _ h => h) (Or.inl ⟨by rfl, ?_⟩) ?_ ?_
              rotate_left
              · intro w'
                go_simp
                with_reducible rfl
              rotate_left
              · simp only [Act.put, List.setIfInBounds_toArray, List.set_cons_zero, List.set_cons_succ, i64_w, i32_w]
                rfl
              refine done_ (done_of HT_.out (by kernel_rfl)) ?_
              try go_wp2
              refine bodyPost_ret (results_ct rfl _ _ gb394 25 #[.int .i64 x408000_1, .int .i64 x408001_1, .int .i64 x408002_1, .int .i64 x408003_1, .int .i64 x408004_1, .int .i64 x408005_1, .int .i64 x408006_1, .int .i64 x408007_1] (0, 0) _ rfl (by (with_reducible repeat (first | refine blk_drewN ?_ _ | refine blk_drew ?_ | refine blk_alloc ?_ _)); refine blk_put (cs := #[.int .i64 x408000_1, .int .i64 x408001_1, .int .i64 x408002_1, .int .i64 x408003_1, .int .i64 x408004_1, .int .i64 x408005_1, .int .i64 x408006_1, .int .i64 0]) ?_ 7 _ rfl; (with_reducible repeat (first | refine blk_drewN ?_ _ | refine blk_drew ?_ | refine blk_alloc ?_ _)); refine blk_put (cs := #[.int .i64 x408000_1, .int .i64 x408001_1, .int .i64 x408002_1, .int .i64 x408003_1, .int .i64 x408004_1, .int .i64 x408005_1, .int .i64 0, .int .i64 0]) ?_ 6 _ rfl; (with_reducible repeat (first | refine blk_drewN ?_ _ | refine blk_drew ?_ | refine blk_alloc ?_ _)); refine blk_put (cs := #[.int .i64 x408000_1, .int .i64 x408001_1, .int .i64 x408002_1, .int .i64 x408003_1, .int .i64 x408004_1, .int .i64 0, .int .i64 0, .int .i64 0]) ?_ 5 _ rfl; (with_reducible repeat (first | refine blk_drewN ?_ _ | refine blk_drew ?_ | refine blk_alloc ?_ _)); refine blk_put (cs := #[.int .i64 x408000_1, .int .i64 x408001_1, .int .i64 x408002_1, .int .i64 x408003_1, .int .i64 0, .int .i64 0, .int .i64 0, .int .i64 0]) ?_ 4 _ rfl; (with_reducible repeat (first | refine blk_drewN ?_ _ | refine blk_drew ?_ | refine blk_alloc ?_ _)); refine blk_put (cs := #[.int .i64 x408000_1, .int .i64 x408001_1, .int .i64 x408002_1, .int .i64 0, .int .i64 0, .int .i64 0, .int .i64 0, .int .i64 0]) ?_ 3 _ rfl; (with_reducible repeat (first | refine blk_drewN ?_ _ | refine blk_drew ?_ | refine blk_alloc ?_ _)); refine blk_put (cs := #[.int .i64 x408000_1, .int .i64 x408001_1, .int .i64 0, .int .i64 0, .int .i64 0, .int .i64 0, .int .i64 0, .int .i64 0]) ?_ 2 _ rfl; (with_reducible repeat (first | refine blk_drewN ?_ _ | refine blk_drew ?_ | refine blk_alloc ?_ _)); refine blk_put (cs := #[.int .i64 x408000_1, .int .i64 0, .int .i64 0, .int .i64 0, .int .i64 0, .int .i64 0, .int .i64 0, .int .i64 0]) ?_ 1 _ rfl; (with_reducible repeat (first | refine blk_drewN ?_ _ | refine blk_drew ?_ | refine blk_alloc ?_ _)); refine blk_put (cs := #[.int .i64 0, .int .i64 0, .int .i64 0, .int .i64 0, .int .i64 0, .int .i64 0, .int .i64 0, .int .i64 0]) ?_ 0 _ rfl; (with_reducible repeat (first | refine blk_drewN ?_ _ | refine blk_drew ?_ | refine blk_alloc ?_ _)); exact BK394.out) Try.underlying25 rfl (by kernel_rfl)) rfl ?_
              exact ⟨by first | rfl | (simp [errW_none, errW_some] <;> rfl) | (simp [*, errW_none, errW_some] <;> rfl), by repeat (first | (with_reducible first | exact HB.out | apply below_alloc | apply pw_below_drewN | apply below_drew1 | refine below_set ?_ (IsS100.ge HI397.out) | refine below_set ?_ GE394.out | refine below_set ?_ GE407.out) | exact HB.out)⟩
            · rw [if_neg c32] at H
              have c32b0 : (x408000_1 == 2) = false := beq_eq_false_iff_ne.mpr c32
              have c32b1 : (x408000_1 != 2) = true := bne_iff_ne.mpr c32
              replace H := Option.bind_eq_some_iff.mp H
              obtain ⟨⟨t418, t419, t420, t421, t422, t423, t424, t425, t426⟩, A500, H⟩ := H
              replace H : (spec_DrawRecBack.l0 k1 (wrap64 (x6_1 + 1)) t395 t426 t418 t419 t420 t421 t422 t423 t424 t425) = some (r1, r2, r3, r4, r5, r6, r7, r8, r9) := H
              have A50 := Aside0.mk A500
              clear A500
              have H' := Aside0.mk H
              clear H
              go_wp2_with (first | (go_at_call 93; (with_reducible refine (spec_l6Rd_pick.calls k1 g397 t395 x398001_1 8 t408 t409 w _ ?side1 ?side2 A12.out).mono ?_); (case side1 => repeat (first | (with_reducible first | exact HI397.out | apply IsS100.alloc | apply IsS100.drewN | apply IsS100.drew | apply IsS100.set_1 | refine IsS100.far ?_ NB397_394.out _ | refine IsS100.far ?_ NB397_407.out _) | exact HI397.out)); (case side2 => repeat (first | (with_reducible first | exact HB.out | apply below_alloc | apply pw_below_drewN | apply below_drew1 | refine below_set ?_ (IsS100.ge HI397.out) | refine below_set ?_ GE394.out | refine below_set ?_ GE407.out) | exact HB.out)); rintro e w51 ⟨rfl, hi, hb, hk⟩; have n0_ := Aside0.mk (KeepBut.blk hk (g' := gb394) (o := .cells #[.int .i64 0, .int .i64 0, .int .i64 0, .int .i64 0, .int .i64 0, .int .i64 0, .int .i64 0, .int .i64 0] 25 (0, 0)) (by (with_reducible repeat (first | refine blk_drewN ?_ _ | refine blk_drew ?_ | refine blk_alloc ?_ _)); exact BK394.out) NB394_397.out (by simp)); have n1_ := Aside0.mk (KeepBut.blk hk (g' := gb407) (o := .cells #[.int .i64 x408000_1, .int .i64 x408001_1, .int .i64 x408002_1, .int .i64 x408003_1, .int .i64 x408004_1, .int .i64 x408005_1, .int .i64 x408006_1, .int .i64 x408007_1] 25 (0, 0)) (by (with_reducible repeat (first | refine blk_drewN ?_ _ | refine blk_drew ?_ | refine blk_alloc ?_ _)); exact BK407.out) NB407_397.out (by simp)); have n2_ := Aside0.mk (hb); have n3_ := Aside0.mk (hi); clear BK394; clear BK407; clear HB; clear HI397; have BK394 := n0_; have BK407 := n1_; have HB := n2_; have HI397 := n3_; clear n0_ n1_ n2_ n3_; (try clear hb); (try clear hb2); (try clear hk); (try clear hi); have hnb52 := NB407_394.out; have hnc52 := NB394_407.out; have hnb53 := NB407_397.out; have hnc53 := NB397_407.out; have hcz54_0 : w51.cell? ⟨gb407, 0, none⟩ = some (.int .i64 x408000_1) := (blk_cell BK407.out 0).trans rfl; have hcz54_1 : w51.cell? ⟨gb407, 1, none⟩ = some (.int .i64 x408001_1) := (blk_cell BK407.out 1).trans rfl; have hcz54_2 : w51.cell? ⟨gb407, 2, none⟩ = some (.int .i64 x408002_1) := (blk_cell BK407.out 2).trans rfl; have hcz54_3 : w51.cell? ⟨gb407, 3, none⟩ = some (.int .i64 x408003_1) := (blk_cell BK407.out 3).trans rfl; have hcz54_4 : w51.cell? ⟨gb407, 4, none⟩ = some (.int .i64 x408004_1) := (blk_cell BK407.out 4).trans rfl; have hcz54_5 : w51.cell? ⟨gb407, 5, none⟩ = some (.int .i64 x408005_1) := (blk_cell BK407.out 5).trans rfl; have hcz54_6 : w51.cell? ⟨gb407, 6, none⟩ = some (.int .i64 x408006_1) := (blk_cell BK407.out 6).trans rfl; have hcz54_7 : w51.cell? ⟨gb407, 7, none⟩ = some (.int .i64 x408007_1) := (blk_cell BK407.out 7).trans rfl; have hfz54_0 := blk_frozen BK407.out 0; have hfz54_1 := blk_frozen BK407.out 1; have hfz54_2 := blk_frozen BK407.out 2; have hfz54_3 := blk_frozen BK407.out 3; have hfz54_4 := blk_frozen BK407.out 4; have hfz54_5 := blk_frozen BK407.out 5; have hfz54_6 := blk_frozen BK407.out 6; have hfz54_7 := blk_frozen BK407.out 7) | ((with_reducible refine gate_callee (f := 95) rfl ?_); refine goesL_ (some 31) rfl rfl Try.func95 (by kernel_rfl) rfl #[.pointer (some ⟨g397, 0, none⟩)] rfl (by (try simp only [List.map_toArray, List.map_cons, List.map_nil]); first | done | rfl | (simp only [List.length_drop, List.length_take]; rfl)) ?_; (with_reducible refine (spec_l71Rec.calls k1 g397 t395 t409 t418 t419 t420 t421 t422 t423 t424 t425 t426 w _ ?side1 ?side2 A50.out).mono ?_); (case side1 => repeat (first | (with_reducible first | exact HI397.out | apply IsS100.alloc | apply IsS100.drewN | apply IsS100.drew | apply IsS100.set_1 | refine IsS100.far ?_ NB397_394.out _ | refine IsS100.far ?_ NB397_407.out _) | exact HI397.out)); (case side2 => repeat (first | (with_reducible first | exact HB.out | apply below_alloc | apply pw_below_drewN | apply below_drew1 | refine below_set ?_ (IsS100.ge HI397.out) | refine below_set ?_ GE394.out | refine below_set ?_ GE407.out) | exact HB.out)); rintro e w55 ⟨rfl, hi, hb, hk⟩; refine ⟨_, rfl, ?_⟩; have n0_ := Aside0.mk (KeepBut.blk hk (g' := gb394) (o := .cells #[.int .i64 0, .int .i64 0, .int .i64 0, .int .i64 0, .int .i64 0, .int .i64 0, .int .i64 0, .int .i64 0] 25 (0, 0)) (by (with_reducible repeat (first | refine blk_drewN ?_ _ | refine blk_drew ?_ | refine blk_alloc ?_ _)); exact BK394.out) NB394_397.out (by simp)); have n1_ := Aside0.mk (KeepBut.blk hk (g' := gb407) (o := .cells #[.int .i64 x408000_1, .int .i64 x408001_1, .int .i64 x408002_1, .int .i64 x408003_1, .int .i64 x408004_1, .int .i64 x408005_1, .int .i64 x408006_1, .int .i64 x408007_1] 25 (0, 0)) (by (with_reducible repeat (first | refine blk_drewN ?_ _ | refine blk_drew ?_ | refine blk_alloc ?_ _)); exact BK407.out) NB407_397.out (by simp)); have n2_ := Aside0.mk (hb); have n3_ := Aside0.mk (hi); clear BK394; clear BK407; clear HB; clear HI397; have BK394 := n0_; have BK407 := n1_; have HB := n2_; have HI397 := n3_; clear n0_ n1_ n2_ n3_; (try clear hb); (try clear hb2); (try clear hk); (try clear hi); have hcz56_0 : w55.cell? ⟨gb407, 0, none⟩ = some (.int .i64 x408000_1) := (blk_cell BK407.out 0).trans rfl; have hcz56_1 : w55.cell? ⟨gb407, 1, none⟩ = some (.int .i64 x408001_1) := (blk_cell BK407.out 1).trans rfl; have hcz56_2 : w55.cell? ⟨gb407, 2, none⟩ = some (.int .i64 x408002_1) := (blk_cell BK407.out 2).trans rfl; have hcz56_3 : w55.cell? ⟨gb407, 3, none⟩ = some (.int .i64 x408003_1) := (blk_cell BK407.out 3).trans rfl; have hcz56_4 : w55.cell? ⟨gb407, 4, none⟩ = some (.int .i64 x408004_1) := (blk_cell BK407.out 4).trans rfl; have hcz56_5 : w55.cell? ⟨gb407, 5, none⟩ = some (.int .i64 x408005_1) := (blk_cell BK407.out 5).trans rfl; have hcz56_6 : w55.cell? ⟨gb407, 6, none⟩ = some (.int .i64 x408006_1) := (blk_cell BK407.out 6).trans rfl; have hcz56_7 : w55.cell? ⟨gb407, 7, none⟩ = some (.int .i64 x408007_1) := (blk_cell BK407.out 7).trans rfl; have hfz56_0 := blk_frozen BK407.out 0; have hfz56_1 := blk_frozen BK407.out 1; have hfz56_2 := blk_frozen BK407.out 2; have hfz56_3 := blk_frozen BK407.out 3; have hfz56_4 := blk_frozen BK407.out 4; have hfz56_5 := blk_frozen BK407.out 5; have hfz56_6 := blk_frozen BK407.out 6; have hfz56_7 := blk_frozen BK407.out 7))
              go_roundg k1
              case measure => have := HK1.out; omega
              case rel => exact ⟨(wrap64 (x6_1 + 1)), (t426), (t418), (t419), (t420), (t421), (t422), (t423), (t424), (t425), (by first | rfl | (simp; done) | (simp [*]; done)), H', ⟨by have := HK1.out; omega⟩, ⟨by (with_reducible repeat (first | refine blk_drewN ?_ _ | refine blk_drew ?_ | refine blk_alloc ?_ _)); refine blk_far ?_ NB394_407.out _; (with_reducible repeat (first | refine blk_drewN ?_ _ | refine blk_drew ?_ | refine blk_alloc ?_ _)); refine blk_far ?_ NB394_407.out _; (with_reducible repeat (first | refine blk_drewN ?_ _ | refine blk_drew ?_ | refine blk_alloc ?_ _)); refine blk_far ?_ NB394_407.out _; (with_reducible repeat (first | refine blk_drewN ?_ _ | refine blk_drew ?_ | refine blk_alloc ?_ _)); refine blk_far ?_ NB394_407.out _; (with_reducible repeat (first | refine blk_drewN ?_ _ | refine blk_drew ?_ | refine blk_alloc ?_ _)); refine blk_far ?_ NB394_407.out _; (with_reducible repeat (first | refine blk_drewN ?_ _ | refine blk_drew ?_ | refine blk_alloc ?_ _)); refine blk_far ?_ NB394_407.out _; (with_reducible repeat (first | refine blk_drewN ?_ _ | refine blk_drew ?_ | refine blk_alloc ?_ _)); refine blk_far ?_ NB394_407.out _; (with_reducible repeat (first | refine blk_drewN ?_ _ | refine blk_drew ?_ | refine blk_alloc ?_ _)); refine blk_far ?_ NB394_407.out _; (with_reducible repeat (first | refine blk_drewN ?_ _ | refine blk_drew ?_ | refine blk_alloc ?_ _)); exact BK394.out⟩, ⟨by (with_reducible repeat (first | refine blk_drewN ?_ _ | refine blk_drew ?_ | refine blk_alloc ?_ _)); refine blk_put (cs := #[.int .i64 t418, .int .i64 t419, .int .i64 t420, .int .i64 t421, .int .i64 t422, .int .i64 t423, .int .i64 t424, .int .i64 x408007_1]) ?_ 7 _ rfl; (with_reducible repeat (first | refine blk_drewN ?_ _ | refine blk_drew ?_ | refine blk_alloc ?_ _)); refine blk_put (cs := #[.int .i64 t418, .int .i64 t419, .int .i64 t420, .int .i64 t421, .int .i64 t422, .int .i64 t423, .int .i64 x408006_1, .int .i64 x408007_1]) ?_ 6 _ rfl; (with_reducible repeat (first | refine blk_drewN ?_ _ | refine blk_drew ?_ | refine blk_alloc ?_ _)); refine blk_put (cs := #[.int .i64 t418, .int .i64 t419, .int .i64 t420, .int .i64 t421, .int .i64 t422, .int .i64 x408005_1, .int .i64 x408006_1, .int .i64 x408007_1]) ?_ 5 _ rfl; (with_reducible repeat (first | refine blk_drewN ?_ _ | refine blk_drew ?_ | refine blk_alloc ?_ _)); refine blk_put (cs := #[.int .i64 t418, .int .i64 t419, .int .i64 t420, .int .i64 t421, .int .i64 x408004_1, .int .i64 x408005_1, .int .i64 x408006_1, .int .i64 x408007_1]) ?_ 4 _ rfl; (with_reducible repeat (first | refine blk_drewN ?_ _ | refine blk_drew ?_ | refine blk_alloc ?_ _)); refine blk_put (cs := #[.int .i64 t418, .int .i64 t419, .int .i64 t420, .int .i64 x408003_1, .int .i64 x408004_1, .int .i64 x408005_1, .int .i64 x408006_1, .int .i64 x408007_1]) ?_ 3 _ rfl; (with_reducible repeat (first | refine blk_drewN ?_ _ | refine blk_drew ?_ | refine blk_alloc ?_ _)); refine blk_put (cs := #[.int .i64 t418, .int .i64 t419, .int .i64 x408002_1, .int .i64 x408003_1, .int .i64 x408004_1, .int .i64 x408005_1, .int .i64 x408006_1, .int .i64 x408007_1]) ?_ 2 _ rfl; (with_reducible repeat (first | refine blk_drewN ?_ _ | refine blk_drew ?_ | refine blk_alloc ?_ _)); refine blk_put (cs := #[.int .i64 t418, .int .i64 x408001_1, .int .i64 x408002_1, .int .i64 x408003_1, .int .i64 x408004_1, .int .i64 x408005_1, .int .i64 x408006_1, .int .i64 x408007_1]) ?_ 1 _ rfl; (with_reducible repeat (first | refine blk_drewN ?_ _ | refine blk_drew ?_ | refine blk_alloc ?_ _)); refine blk_put (cs := #[.int .i64 x408000_1, .int .i64 x408001_1, .int .i64 x408002_1, .int .i64 x408003_1, .int .i64 x408004_1, .int .i64 x408005_1, .int .i64 x408006_1, .int .i64 x408007_1]) ?_ 0 _ rfl; (with_reducible repeat (first | refine blk_drewN ?_ _ | refine blk_drew ?_ | refine blk_alloc ?_ _)); exact BK407.out⟩, ⟨by repeat (first | (with_reducible first | exact HI397.out | apply IsS100.alloc | apply IsS100.drewN | apply IsS100.drew | apply IsS100.set_1 | refine IsS100.far ?_ NB397_394.out _ | refine IsS100.far ?_ NB397_407.out _) | exact HI397.out)⟩, ⟨by repeat (first | (with_reducible first | exact HB.out | apply below_alloc | apply pw_below_drewN | apply below_drew1 | refine below_set ?_ (IsS100.ge HI397.out) | refine below_set ?_ GE394.out | refine below_set ?_ GE407.out) | exact HB.out)⟩⟩
        · rw [if_neg c13] at H
          have c13b0 : decide (0 < t408) = false := decide_eq_false c13
          clear c13
          replace H := Option.bind_eq_some_iff.mp H
          obtain ⟨⟨t427, t428⟩, A570, H⟩ := H
          replace H : ((spec_l6Rd_pick.f k1 t395 t428 24).bind fun bt429 => (some (x408000_1, x408001_1, x408002_1, x408003_1, x408004_1, x408005_1, x408006_1, x408007_1, wrap64 (t427 - (wrap64 ((wrap64 (Int.tdiv bt429.1 23)) * 13)))))) = some (r1, r2, r3, r4, r5, r6, r7, r8, r9) := H
          have A57 := Aside0.mk A570
          clear A570
          replace H := Option.bind_eq_some_iff.mp H
          obtain ⟨⟨t429, t430⟩, A580, H⟩ := H
          replace H : (some (x408000_1, x408001_1, x408002_1, x408003_1, x408004_1, x408005_1, x408006_1, x408007_1, wrap64 (t427 - (wrap64 ((wrap64 (Int.tdiv t429 23)) * 13))))) = some (r1, r2, r3, r4, r5, r6, r7, r8, r9) := H
          have A58 := Aside0.mk A580
          clear A580
          simp only [Option.some.injEq, Prod.mk.injEq] at H
          obtain ⟨rfl, rfl, rfl, rfl, rfl, rfl, rfl, rfl, rfl⟩ := H
          try go_wp2_with (first | (go_at_call 93; (with_reducible refine (spec_l6Rd_pick.calls k1 g397 t395 x398001_1 8 t408 t409 w _ ?side1 ?side2 A12.out).mono ?_); (case side1 => repeat (first | (with_reducible first | exact HI397.out | apply IsS100.alloc | apply IsS100.drewN | apply IsS100.drew | apply IsS100.set_1 | refine IsS100.far ?_ NB397_394.out _ | refine IsS100.far ?_ NB397_407.out _) | exact HI397.out)); (case side2 => repeat (first | (with_reducible first | exact HB.out | apply below_alloc | apply pw_below_drewN | apply below_drew1 | refine below_set ?_ (IsS100.ge HI397.out) | refine below_set ?_ GE394.out | refine below_set ?_ GE407.out) | exact HB.out)); rintro e w59 ⟨rfl, hi, hb, hk⟩; have n0_ := Aside0.mk (KeepBut.blk hk (g' := gb394) (o := .cells #[.int .i64 0, .int .i64 0, .int .i64 0, .int .i64 0, .int .i64 0, .int .i64 0, .int .i64 0, .int .i64 0] 25 (0, 0)) (by (with_reducible repeat (first | refine blk_drewN ?_ _ | refine blk_drew ?_ | refine blk_alloc ?_ _)); exact BK394.out) NB394_397.out (by simp)); have n1_ := Aside0.mk (KeepBut.blk hk (g' := gb407) (o := .cells #[.int .i64 x408000_1, .int .i64 x408001_1, .int .i64 x408002_1, .int .i64 x408003_1, .int .i64 x408004_1, .int .i64 x408005_1, .int .i64 x408006_1, .int .i64 x408007_1] 25 (0, 0)) (by (with_reducible repeat (first | refine blk_drewN ?_ _ | refine blk_drew ?_ | refine blk_alloc ?_ _)); exact BK407.out) NB407_397.out (by simp)); have n2_ := Aside0.mk (hb); have n3_ := Aside0.mk (hi); clear BK394; clear BK407; clear HB; clear HI397; have BK394 := n0_; have BK407 := n1_; have HB := n2_; have HI397 := n3_; clear n0_ n1_ n2_ n3_; (try clear hb); (try clear hb2); (try clear hk); (try clear hi)))
          have n0_ := Aside0.mk (blk_drew BK394.out)
          have n1_ := Aside0.mk (blk_drew BK407.out)
          have n2_ := Aside0.mk (IsS100.drew HI397.out)
          have n3_ := Aside0.mk (below_drew1 HB.out)
          clear BK394
          clear BK407
          clear HI397
          clear HB
          have BK394 := n0_
          have BK407 := n1_
          have HI397 := n2_
          have HB := n3_
          clear n0_ n1_ n2_ n3_
          refine start_ (n := 10) (S := fun w' => w'.cell? ⟨gb407, 0, none⟩ = some (.int .i64 x408000_1) ∧ w'.cell? ⟨gb407, 1, none⟩ = some (.int .i64 x408001_1) ∧ w'.cell? ⟨gb407, 2, none⟩ = some (.int .i64 x408002_1) ∧ w'.cell? ⟨gb407, 3, none⟩ = some (.int .i64 x408003_1) ∧ w'.cell? ⟨gb407, 4, none⟩ = some (.int .i64 x408004_1) ∧ w'.cell? ⟨gb407, 5, none⟩ = some (.int .i64 x408005_1) ∧ w'.cell? ⟨gb407, 6, none⟩ = some (.int .i64 x408006_1) ∧ w'.cell? ⟨gb407, 7, none⟩ = some (.int .i64 x408007_1)) (ds := []) #[false, false, false, false, false, false, false, false, false, false] (by kernel_rfl) rfl rfl ⟨(blk_cell BK407.out 0).trans rfl, (blk_cell BK407.out 1).trans rfl, (blk_cell BK407.out 2).trans rfl, (blk_cell BK407.out 3).trans rfl, (blk_cell BK407.out 4).trans rfl, (blk_cell BK407.out 5).trans rfl, (blk_cell BK407.out 6).trans rfl, (blk_cell BK407.out 7).trans rfl⟩ (fun hHeld => ?_); refine with_tabW spec_DrawRecBack.tab7 spec_DrawRecBack.bits7 (fun HT_ HW_ => ?_)
          generalize w59.drew = w60 at BK394 BK407 HI397 HB hHeld ⊢
          refine pure_ (i := 1) (N := some 33) (v := ?_) (a' := ?_) #[false, true, false, false, false, false, false, false, false, false] rfl rfl (any_of HT_.out (by kernel_rfl)) (fun _ _ _ h => h) (Or.inl ⟨by rfl, ?_⟩) ?_ ?_
          rotate_left
          · intro w'
            go_simp
            with_reducible rfl
          rotate_left
          · simp only [Act.put, List.setIfInBounds_toArray, List.set_cons_zero, List.set_cons_succ, i64_w, i32_w]
            rfl
          refine pure_ (i := 3) (N := some 35) (v := ?_) (a' := ?_) #[false, true, false, true, false, false, false, false, false, false] rfl rfl (any_of HT_.out (by kernel_rfl)) (fun _ _ _ h => h) (Or.inl ⟨by rfl, ?_⟩) ?_ ?_
          rotate_left
          · intro w'
            go_simp
            with_reducible rfl
          rotate_left
          · simp only [Act.put, List.setIfInBounds_toArray, List.set_cons_zero, List.set_cons_succ, i64_w, i32_w]
            rfl
          refine take_ (i := 0) (N := some 32) (v := ?_) (a' := ?_) #[true, true, false, true, false, false, false, false, false, false] rfl rfl (take_ofW HT_.out HW_.out (by kernel_rfl)) (fun _ _ _ h => h) (Or.inl ⟨by rfl, ?_⟩) hHeld ?_ ?_
          rotate_left
          · rintro w' ⟨s0, s1, s2, s3, s4, s5, s6, s7⟩
            go_simp
            with_reducible rfl
          rotate_left
          · simp only [Act.put, List.setIfInBounds_toArray, List.set_cons_zero, List.set_cons_succ, i64_w, i32_w]
            rfl
          refine one_ (i := 2) (N := some 34) #[true, true, true, true, false, false, false, false, false, false] rfl rfl (one_of HT_.out (by kernel_rfl)) (by decide) (fun K hK => ?_)
          refine goes_ Try.func93 (by kernel_rfl) rfl #[.pointer (some ⟨g397, 0, none⟩), .int .i64 12] (by rfl) rfl rfl (by (try simp only [List.map_toArray, List.map_cons, List.map_nil]); first | done | rfl | (simp only [List.length_drop, List.length_take]; rfl)) ?_
          with_reducible refine (spec_l6Rd_pick.calls k1 g397 t395 t409 12 t427 t428 w _ ?side1 ?side2 A57.out).mono ?_
          (case side1 => repeat (first | (with_reducible first | exact HI397.out | apply IsS100.alloc | apply IsS100.drewN | apply IsS100.drew | apply IsS100.set_1 | refine IsS100.far ?_ NB397_394.out _ | refine IsS100.far ?_ NB397_407.out _) | exact HI397.out))
          (case side2 => repeat (first | (with_reducible first | exact HB.out | apply below_alloc | apply pw_below_drewN | apply below_drew1 | refine below_set ?_ (IsS100.ge HI397.out) | refine below_set ?_ GE394.out | refine below_set ?_ GE407.out) | exact HB.out))
          rintro e w61 ⟨rfl, hi, hb, hk⟩
          refine ⟨_, rfl, ?_⟩
          have n0_ := Aside0.mk (KeepBut.blk hk (g' := gb394) (o := .cells #[.int .i64 0, .int .i64 0, .int .i64 0, .int .i64 0, .int .i64 0, .int .i64 0, .int .i64 0, .int .i64 0] 25 (0, 0)) (by (with_reducible repeat (first | refine blk_drewN ?_ _ | refine blk_drew ?_ | refine blk_alloc ?_ _)); exact BK394.out) NB394_397.out (by simp))
          have n1_ := Aside0.mk (KeepBut.blk hk (g' := gb407) (o := .cells #[.int .i64 x408000_1, .int .i64 x408001_1, .int .i64 x408002_1, .int .i64 x408003_1, .int .i64 x408004_1, .int .i64 x408005_1, .int .i64 x408006_1, .int .i64 x408007_1] 25 (0, 0)) (by (with_reducible repeat (first | refine blk_drewN ?_ _ | refine blk_drew ?_ | refine blk_alloc ?_ _)); exact BK407.out) NB407_397.out (by simp))
          have n2_ := Aside0.mk (hb)
          have n3_ := Aside0.mk (hi)
          clear BK394
          clear BK407
          clear HB
          clear HI397
          have BK394 := n0_
          have BK407 := n1_
          have HB := n2_
          have HI397 := n3_
          clear n0_ n1_ n2_ n3_
          (try clear hb)
          (try clear hb2)
          (try clear hk)
          (try clear hi)
          refine hK.out _ _ ⟨(blk_cell BK407.out 0).trans rfl, (blk_cell BK407.out 1).trans rfl, (blk_cell BK407.out 2).trans rfl, (blk_cell BK407.out 3).trans rfl, (blk_cell BK407.out 4).trans rfl, (blk_cell BK407.out 5).trans rfl, (blk_cell BK407.out 6).trans rfl, (blk_cell BK407.out 7).trans rfl⟩ (fun hHeld => ?_)
          clear hK K
          refine norm_ (a' := ?_) ?_ ?_
          rotate_left
          · show Act.put _ (some 34) _ = _
            simp only [Act.put, List.setIfInBounds_toArray, List.set_cons_zero, List.set_cons_succ, i64_w, i32_w]
            rfl
          refine one_ (i := 4) (N := some 36) #[true, true, true, true, true, false, false, false, false, false] rfl rfl (one_of HT_.out (by kernel_rfl)) (by decide) (fun K hK => ?_)
          refine goes_ Try.func93 (by kernel_rfl) rfl #[.pointer (some ⟨g397, 0, none⟩), .int .i64 24] (by rfl) rfl rfl (by (try simp only [List.map_toArray, List.map_cons, List.map_nil]); first | done | rfl | (simp only [List.length_drop, List.length_take]; rfl)) ?_
          with_reducible refine (spec_l6Rd_pick.calls k1 g397 t395 t428 24 t429 t430 w _ ?side1 ?side2 A58.out).mono ?_
          (case side1 => repeat (first | (with_reducible first | exact HI397.out | apply IsS100.alloc | apply IsS100.drewN | apply IsS100.drew | apply IsS100.set_1 | refine IsS100.far ?_ NB397_394.out _ | refine IsS100.far ?_ NB397_407.out _) | exact HI397.out))
          (case side2 => repeat (first | (with_reducible first | exact HB.out | apply below_alloc | apply pw_below_drewN | apply below_drew1 | refine below_set ?_ (IsS100.ge HI397.out) | refine below_set ?_ GE394.out | refine below_set ?_ GE407.out) | exact HB.out))
          rintro e w62 ⟨rfl, hi, hb, hk⟩
          refine ⟨_, rfl, ?_⟩
          have n0_ := Aside0.mk (KeepBut.blk hk (g' := gb394) (o := .cells #[.int .i64 0, .int .i64 0, .int .i64 0, .int .i64 0, .int .i64 0, .int .i64 0, .int .i64 0, .int .i64 0] 25 (0, 0)) (by (with_reducible repeat (first | refine blk_drewN ?_ _ | refine blk_drew ?_ | refine blk_alloc ?_ _)); exact BK394.out) NB394_397.out (by simp))
          have n1_ := Aside0.mk (KeepBut.blk hk (g' := gb407) (o := .cells #[.int .i64 x408000_1, .int .i64 x408001_1, .int .i64 x408002_1, .int .i64 x408003_1, .int .i64 x408004_1, .int .i64 x408005_1, .int .i64 x408006_1, .int .i64 x408007_1] 25 (0, 0)) (by (with_reducible repeat (first | refine blk_drewN ?_ _ | refine blk_drew ?_ | refine blk_alloc ?_ _)); exact BK407.out) NB407_397.out (by simp))
          have n2_ := Aside0.mk (hb)
          have n3_ := Aside0.mk (hi)
          clear BK394
          clear BK407
          clear HB
          clear HI397
          have BK394 := n0_
          have BK407 := n1_
          have HB := n2_
          have HI397 := n3_
          clear n0_ n1_ n2_ n3_
          (try clear hb)
          (try clear hb2)
          (try clear hk)
          (try clear hi)
          refine hK.out _ _ ⟨(blk_cell BK407.out 0).trans rfl, (blk_cell BK407.out 1).trans rfl, (blk_cell BK407.out 2).trans rfl, (blk_cell BK407.out 3).trans rfl, (blk_cell BK407.out 4).trans rfl, (blk_cell BK407.out 5).trans rfl, (blk_cell BK407.out 6).trans rfl, (blk_cell BK407.out 7).trans rfl⟩ (fun hHeld => ?_)
          clear hK K
          refine norm_ (a' := ?_) ?_ ?_
          rotate_left
          · show Act.put _ (some 36) _ = _
            simp only [Act.put, List.setIfInBounds_toArray, List.set_cons_zero, List.set_cons_succ, i64_w, i32_w]
            rfl
          refine pure_ (i := 5) (N := some 37) (v := ?_) (a' := ?_) #[true, true, true, true, true, true, false, false, false, false] rfl rfl (any_of HT_.out (by kernel_rfl)) (fun _ _ _ h => h) (Or.inl ⟨by rfl, ?_⟩) ?_ ?_
          rotate_left
          · intro w'
            go_simp
            with_reducible rfl
          rotate_left
          · simp only [Act.put, List.setIfInBounds_toArray, List.set_cons_zero, List.set_cons_succ, i64_w, i32_w]
            rfl
          refine pure_ (i := 6) (N := some 38) (v := ?_) (a' := ?_) #[true, true, true, true, true, true, true, false, false, false] rfl rfl (any_of HT_.out (by kernel_rfl)) (fun _ _ _ h => h) (Or.inl ⟨by rfl, ?_⟩) ?_ ?_
          rotate_left
          · intro w'
            go_simp
            with_reducible rfl
          rotate_left
          · simp only [Act.put, List.setIfInBounds_toArray, List.set_cons_zero, List.set_cons_succ, i64_w, i32_w]
            rfl
          refine pure_ (i := 7) (N := some 39) (v := ?_) (a' := ?_) #[true, true, true, true, true, true, true, true, false, false] rfl rfl (any_of HT_.out (by kernel_rfl)) (fun _ _ _ h => h) (Or.inl ⟨by rfl, ?_⟩) ?_ ?_
          rotate_left
          · intro w'
            go_simp
            with_reducible rfl
          rotate_left
          · simp only [Act.put, List.setIfInBounds_toArray, List.set_cons_zero, List.set_cons_succ, i64_w, i32_w]
            rfl
          refine one_ (i := 8) (N := none) #[true, true, true, true, true, true, true, true, true, false] rfl rfl (one_of HT_.out (by kernel_rfl)) (by decide) (fun K hK => ?_)
          have hs63 : w62.cell? ⟨gb394, 0, none⟩ = some (.int .i64 0) := (blk_cell BK394.out 0).trans rfl
          have hfs63 := blk_frozen BK394.out 0
          have hns63_1 := NB407_394.out
          have hms63_1 := NB394_407.out
          have hs64 : w62.cell? ⟨gb394, 1, none⟩ = some (.int .i64 0) := (blk_cell BK394.out 1).trans rfl
          have hfs64 := blk_frozen BK394.out 1
          have hns64_1 := NB407_394.out
          have hms64_1 := NB394_407.out
          have hs65 : w62.cell? ⟨gb394, 2, none⟩ = some (.int .i64 0) := (blk_cell BK394.out 2).trans rfl
          have hfs65 := blk_frozen BK394.out 2
          have hns65_1 := NB407_394.out
          have hms65_1 := NB394_407.out
          have hs66 : w62.cell? ⟨gb394, 3, none⟩ = some (.int .i64 0) := (blk_cell BK394.out 3).trans rfl
          have hfs66 := blk_frozen BK394.out 3
          have hns66_1 := NB407_394.out
          have hms66_1 := NB394_407.out
          have hs67 : w62.cell? ⟨gb394, 4, none⟩ = some (.int .i64 0) := (blk_cell BK394.out 4).trans rfl
          have hfs67 := blk_frozen BK394.out 4
          have hns67_1 := NB407_394.out
          have hms67_1 := NB394_407.out
          have hs68 : w62.cell? ⟨gb394, 5, none⟩ = some (.int .i64 0) := (blk_cell BK394.out 5).trans rfl
          have hfs68 := blk_frozen BK394.out 5
          have hns68_1 := NB407_394.out
          have hms68_1 := NB394_407.out
          have hs69 : w62.cell? ⟨gb394, 6, none⟩ = some (.int .i64 0) := (blk_cell BK394.out 6).trans rfl
          have hfs69 := blk_frozen BK394.out 6
          have hns69_1 := NB407_394.out
          have hms69_1 := NB394_407.out
          have hs70 : w62.cell? ⟨gb394, 7, none⟩ = some (.int .i64 0) := (blk_cell BK394.out 7).trans rfl
          have hfs70 := blk_frozen BK394.out 7
          have hns70_1 := NB407_394.out
          have hms70_1 := NB394_407.out
          refine skip_ (w1 := ?_) (by rfl) rfl ?_ ?_
          rotate_left
          · go_simp
            rfl
          refine hK.out _ _ ⟨((cell_far (p := ⟨gb394, _, none⟩) NB407_394.out _).trans (((cell_far (p := ⟨gb394, _, none⟩) NB407_394.out _).trans (((cell_far (p := ⟨gb394, _, none⟩) NB407_394.out _).trans (((cell_far (p := ⟨gb394, _, none⟩) NB407_394.out _).trans (((cell_far (p := ⟨gb394, _, none⟩) NB407_394.out _).trans (((cell_far (p := ⟨gb394, _, none⟩) NB407_394.out _).trans (((cell_far (p := ⟨gb394, _, none⟩) NB407_394.out _).trans (((cell_far (p := ⟨gb394, _, none⟩) NB407_394.out _).trans (hHeld.1)))))))))))))))), ((cell_far (p := ⟨gb394, _, none⟩) NB407_394.out _).trans (((cell_far (p := ⟨gb394, _, none⟩) NB407_394.out _).trans (((cell_far (p := ⟨gb394, _, none⟩) NB407_394.out _).trans (((cell_far (p := ⟨gb394, _, none⟩) NB407_394.out _).trans (((cell_far (p := ⟨gb394, _, none⟩) NB407_394.out _).trans (((cell_far (p := ⟨gb394, _, none⟩) NB407_394.out _).trans (((cell_far (p := ⟨gb394, _, none⟩) NB407_394.out _).trans (((cell_far (p := ⟨gb394, _, none⟩) NB407_394.out _).trans (hHeld.2.1)))))))))))))))), ((cell_far (p := ⟨gb394, _, none⟩) NB407_394.out _).trans (((cell_far (p := ⟨gb394, _, none⟩) NB407_394.out _).trans (((cell_far (p := ⟨gb394, _, none⟩) NB407_394.out _).trans (((cell_far (p := ⟨gb394, _, none⟩) NB407_394.out _).trans (((cell_far (p := ⟨gb394, _, none⟩) NB407_394.out _).trans (((cell_far (p := ⟨gb394, _, none⟩) NB407_394.out _).trans (((cell_far (p := ⟨gb394, _, none⟩) NB407_394.out _).trans (((cell_far (p := ⟨gb394, _, none⟩) NB407_394.out _).trans (hHeld.2.2.1)))))))))))))))), ((cell_far (p := ⟨gb394, _, none⟩) NB407_394.out _).trans (((cell_far (p := ⟨gb394, _, none⟩) NB407_394.out _).trans (((cell_far (p := ⟨gb394, _, none⟩) NB407_394.out _).trans (((cell_far (p := ⟨gb394, _, none⟩) NB407_394.out _).trans (((cell_far (p := ⟨gb394, _, none⟩) NB407_394.out _).trans (((cell_far (p := ⟨gb394, _, none⟩) NB407_394.out _).trans (((cell_far (p := ⟨gb394, _, none⟩) NB407_394.out _).trans (((cell_far (p := ⟨gb394, _, none⟩) NB407_394.out _).trans (hHeld.2.2.2.1)))))))))))))))), ((cell_far (p := ⟨gb394, _, none⟩) NB407_394.out _).trans (((cell_far (p := ⟨gb394, _, none⟩) NB407_394.out _).trans (((cell_far (p := ⟨gb394, _, none⟩) NB407_394.out _).trans (((cell_far (p := ⟨gb394, _, none⟩) NB407_394.out _).trans (((cell_far (p := ⟨gb394, _, none⟩) NB407_394.out _).trans (((cell_far (p := ⟨gb394, _, none⟩) NB407_394.out _).trans (((cell_far (p := ⟨gb394, _, none⟩) NB407_394.out _).trans (((cell_far (p := ⟨gb394, _, none⟩) NB407_394.out _).trans (hHeld.2.2.2.2.1)))))))))))))))), ((cell_far (p := ⟨gb394, _, none⟩) NB407_394.out _).trans (((cell_far (p := ⟨gb394, _, none⟩) NB407_394.out _).trans (((cell_far (p := ⟨gb394, _, none⟩) NB407_394.out _).trans (((cell_far (p := ⟨gb394, _, none⟩) NB407_394.out _).trans (((cell_far (p := ⟨gb394, _, none⟩) NB407_394.out _).trans (((cell_far (p := ⟨gb394, _, none⟩) NB407_394.out _).trans (((cell_far (p := ⟨gb394, _, none⟩) NB407_394.out _).trans (((cell_far (p := ⟨gb394, _, none⟩) NB407_394.out _).trans (hHeld.2.2.2.2.2.1)))))))))))))))), ((cell_far (p := ⟨gb394, _, none⟩) NB407_394.out _).trans (((cell_far (p := ⟨gb394, _, none⟩) NB407_394.out _).trans (((cell_far (p := ⟨gb394, _, none⟩) NB407_394.out _).trans (((cell_far (p := ⟨gb394, _, none⟩) NB407_394.out _).trans (((cell_far (p := ⟨gb394, _, none⟩) NB407_394.out _).trans (((cell_far (p := ⟨gb394, _, none⟩) NB407_394.out _).trans (((cell_far (p := ⟨gb394, _, none⟩) NB407_394.out _).trans (((cell_far (p := ⟨gb394, _, none⟩) NB407_394.out _).trans (hHeld.2.2.2.2.2.2.1)))))))))))))))), ((cell_far (p := ⟨gb394, _, none⟩) NB407_394.out _).trans (((cell_far (p := ⟨gb394, _, none⟩) NB407_394.out _).trans (((cell_far (p := ⟨gb394, _, none⟩) NB407_394.out _).trans (((cell_far (p := ⟨gb394, _, none⟩) NB407_394.out _).trans (((cell_far (p := ⟨gb394, _, none⟩) NB407_394.out _).trans (((cell_far (p := ⟨gb394, _, none⟩) NB407_394.out _).trans (((cell_far (p := ⟨gb394, _, none⟩) NB407_394.out _).trans (((cell_far (p := ⟨gb394, _, none⟩) NB407_394.out _).trans (hHeld.2.2.2.2.2.2.2))))))))))))))))⟩ (fun hHeld => ?_)
          clear hK K
          refine pure_ (i := 9) (N := some 3) (v := ?_) (a' := ?_) #[true, true, true, true, true, true, true, true, true, true] rfl rfl (any_of HT_.out (by kernel_rfl)) (fun _ _ _ h => h) (Or.inl ⟨by rfl, ?_⟩) ?_ ?_
          rotate_left
          · intro w'
            go_simp
            with_reducible rfl
          rotate_left
          · simp only [Act.put, List.setIfInBounds_toArray, List.set_cons_zero, List.set_cons_succ, i64_w, i32_w]
            rfl
          refine done_ (done_of HT_.out (by kernel_rfl)) ?_
          try go_wp2
          refine bodyPost_ret (results_ct rfl _ _ gb394 25 #[.int .i64 x408000_1, .int .i64 x408001_1, .int .i64 x408002_1, .int .i64 x408003_1, .int .i64 x408004_1, .int .i64 x408005_1, .int .i64 x408006_1, .int .i64 x408007_1] (0, 0) _ rfl (by (with_reducible repeat (first | refine blk_drewN ?_ _ | refine blk_drew ?_ | refine blk_alloc ?_ _)); refine blk_put (cs := #[.int .i64 x408000_1, .int .i64 x408001_1, .int .i64 x408002_1, .int .i64 x408003_1, .int .i64 x408004_1, .int .i64 x408005_1, .int .i64 x408006_1, .int .i64 0]) ?_ 7 _ rfl; (with_reducible repeat (first | refine blk_drewN ?_ _ | refine blk_drew ?_ | refine blk_alloc ?_ _)); refine blk_put (cs := #[.int .i64 x408000_1, .int .i64 x408001_1, .int .i64 x408002_1, .int .i64 x408003_1, .int .i64 x408004_1, .int .i64 x408005_1, .int .i64 0, .int .i64 0]) ?_ 6 _ rfl; (with_reducible repeat (first | refine blk_drewN ?_ _ | refine blk_drew ?_ | refine blk_alloc ?_ _)); refine blk_put (cs := #[.int .i64 x408000_1, .int .i64 x408001_1, .int .i64 x408002_1, .int .i64 x408003_1, .int .i64 x408004_1, .int .i64 0, .int .i64 0, .int .i64 0]) ?_ 5 _ rfl; (with_reducible repeat (first | refine blk_drewN ?_ _ | refine blk_drew ?_ | refine blk_alloc ?_ _)); refine blk_put (cs := #[.int .i64 x408000_1, .int .i64 x408001_1, .int .i64 x408002_1, .int .i64 x408003_1, .int .i64 0, .int .i64 0, .int .i64 0, .int .i64 0]) ?_ 4 _ rfl; (with_reducible repeat (first | refine blk_drewN ?_ _ | refine blk_drew ?_ | refine blk_alloc ?_ _)); refine blk_put (cs := #[.int .i64 x408000_1, .int .i64 x408001_1, .int .i64 x408002_1, .int .i64 0, .int .i64 0, .int .i64 0, .int .i64 0, .int .i64 0]) ?_ 3 _ rfl; (with_reducible repeat (first | refine blk_drewN ?_ _ | refine blk_drew ?_ | refine blk_alloc ?_ _)); refine blk_put (cs := #[.int .i64 x408000_1, .int .i64 x408001_1, .int .i64 0, .int .i64 0, .int .i64 0, .int .i64 0, .int .i64 0, .int .i64 0]) ?_ 2 _ rfl; (with_reducible repeat (first | refine blk_drewN ?_ _ | refine blk_drew ?_ | refine blk_alloc ?_ _)); refine blk_put (cs := #[.int .i64 x408000_1, .int .i64 0, .int .i64 0, .int .i64 0, .int .i64 0, .int .i64 0, .int .i64 0, .int .i64 0]) ?_ 1 _ rfl; (with_reducible repeat (first | refine blk_drewN ?_ _ | refine blk_drew ?_ | refine blk_alloc ?_ _)); refine blk_put (cs := #[.int .i64 0, .int .i64 0, .int .i64 0, .int .i64 0, .int .i64 0, .int .i64 0, .int .i64 0, .int .i64 0]) ?_ 0 _ rfl; (with_reducible repeat (first | refine blk_drewN ?_ _ | refine blk_drew ?_ | refine blk_alloc ?_ _)); exact BK394.out) Try.underlying25 rfl (by kernel_rfl)) rfl ?_
          exact ⟨by first | rfl | (simp [errW_none, errW_some] <;> rfl) | (simp [*, errW_none, errW_some] <;> rfl), by repeat (first | (with_reducible first | exact HB.out | apply below_alloc | apply pw_below_drewN | apply below_drew1 | refine below_set ?_ (IsS100.ge HI397.out) | refine below_set ?_ GE394.out | refine below_set ?_ GE407.out) | exact HB.out)⟩
      · rw [if_neg c11] at H
        have c11b0 : decide (x6_1 < 4) = false := decide_eq_false c11
        clear c11
        replace H := Option.bind_eq_some_iff.mp H
        obtain ⟨⟨t431, t432⟩, A710, H⟩ := H
        replace H : ((spec_l6Rd_pick.f k1 t395 t432 24).bind fun bt433 => (some (x408000_1, x408001_1, x408002_1, x408003_1, x408004_1, x408005_1, x408006_1, x408007_1, wrap64 (t431 - (wrap64 ((wrap64 (Int.tdiv bt433.1 23)) * 13)))))) = some (r1, r2, r3, r4, r5, r6, r7, r8, r9) := H
        have A71 := Aside0.mk A710
        clear A710
        replace H := Option.bind_eq_some_iff.mp H
        obtain ⟨⟨t433, t434⟩, A720, H⟩ := H
        replace H : (some (x408000_1, x408001_1, x408002_1, x408003_1, x408004_1, x408005_1, x408006_1, x408007_1, wrap64 (t431 - (wrap64 ((wrap64 (Int.tdiv t433 23)) * 13))))) = some (r1, r2, r3, r4, r5, r6, r7, r8, r9) := H
        have A72 := Aside0.mk A720
        clear A720
        simp only [Option.some.injEq, Prod.mk.injEq] at H
        obtain ⟨rfl, rfl, rfl, rfl, rfl, rfl, rfl, rfl, rfl⟩ := H
        try go_wp2
        have n0_ := Aside0.mk (blk_drew BK394.out)
        have n1_ := Aside0.mk (blk_drew BK407.out)
        have n2_ := Aside0.mk (IsS100.drew HI397.out)
        have n3_ := Aside0.mk (below_drew1 HB.out)
        clear BK394
        clear BK407
        clear HI397
        clear HB
        have BK394 := n0_
        have BK407 := n1_
        have HI397 := n2_
        have HB := n3_
        clear n0_ n1_ n2_ n3_
        refine start_ (n := 10) (S := fun w' => w'.cell? ⟨gb407, 0, none⟩ = some (.int .i64 x408000_1) ∧ w'.cell? ⟨gb407, 1, none⟩ = some (.int .i64 x408001_1) ∧ w'.cell? ⟨gb407, 2, none⟩ = some (.int .i64 x408002_1) ∧ w'.cell? ⟨gb407, 3, none⟩ = some (.int .i64 x408003_1) ∧ w'.cell? ⟨gb407, 4, none⟩ = some (.int .i64 x408004_1) ∧ w'.cell? ⟨gb407, 5, none⟩ = some (.int .i64 x408005_1) ∧ w'.cell? ⟨gb407, 6, none⟩ = some (.int .i64 x408006_1) ∧ w'.cell? ⟨gb407, 7, none⟩ = some (.int .i64 x408007_1)) (ds := []) #[false, false, false, false, false, false, false, false, false, false] (by kernel_rfl) rfl rfl ⟨(blk_cell BK407.out 0).trans rfl, (blk_cell BK407.out 1).trans rfl, (blk_cell BK407.out 2).trans rfl, (blk_cell BK407.out 3).trans rfl, (blk_cell BK407.out 4).trans rfl, (blk_cell BK407.out 5).trans rfl, (blk_cell BK407.out 6).trans rfl, (blk_cell BK407.out 7).trans rfl⟩ (fun hHeld => ?_); refine with_tabW spec_DrawRecBack.tab7 spec_DrawRecBack.bits7 (fun HT_ HW_ => ?_)
        generalize wr.drew = w73 at BK394 BK407 HI397 HB hHeld ⊢
        refine pure_ (i := 1) (N := some 33) (v := ?_) (a' := ?_) #[false, true, false, false, false, false, false, false, false, false] rfl rfl (any_of HT_.out (by kernel_rfl)) (fun _ _ _ h => h) (Or.inl ⟨by rfl, ?_⟩) ?_ ?_
        rotate_left
        · intro w'
          go_simp
          with_reducible rfl
        rotate_left
        · simp only [Act.put, List.setIfInBounds_toArray, List.set_cons_zero, List.set_cons_succ, i64_w, i32_w]
          rfl
        refine pure_ (i := 3) (N := some 35) (v := ?_) (a' := ?_) #[false, true, false, true, false, false, false, false, false, false] rfl rfl (any_of HT_.out (by kernel_rfl)) (fun _ _ _ h => h) (Or.inl ⟨by rfl, ?_⟩) ?_ ?_
        rotate_left
        · intro w'
          go_simp
          with_reducible rfl
        rotate_left
        · simp only [Act.put, List.setIfInBounds_toArray, List.set_cons_zero, List.set_cons_succ, i64_w, i32_w]
          rfl
        refine take_ (i := 0) (N := some 32) (v := ?_) (a' := ?_) #[true, true, false, true, false, false, false, false, false, false] rfl rfl (take_ofW HT_.out HW_.out (by kernel_rfl)) (fun _ _ _ h => h) (Or.inl ⟨by rfl, ?_⟩) hHeld ?_ ?_
        rotate_left
        · rintro w' ⟨s0, s1, s2, s3, s4, s5, s6, s7⟩
          go_simp
          with_reducible rfl
        rotate_left
        · simp only [Act.put, List.setIfInBounds_toArray, List.set_cons_zero, List.set_cons_succ, i64_w, i32_w]
          rfl
        refine one_ (i := 2) (N := some 34) #[true, true, true, true, false, false, false, false, false, false] rfl rfl (one_of HT_.out (by kernel_rfl)) (by decide) (fun K hK => ?_)
        refine goes_ Try.func93 (by kernel_rfl) rfl #[.pointer (some ⟨g397, 0, none⟩), .int .i64 12] (by rfl) rfl rfl (by (try simp only [List.map_toArray, List.map_cons, List.map_nil]); first | done | rfl | (simp only [List.length_drop, List.length_take]; rfl)) ?_
        with_reducible refine (spec_l6Rd_pick.calls k1 g397 t395 x398001_1 12 t431 t432 w _ ?side1 ?side2 A71.out).mono ?_
        (case side1 => repeat (first | (with_reducible first | exact HI397.out | apply IsS100.alloc | apply IsS100.drewN | apply IsS100.drew | apply IsS100.set_1 | refine IsS100.far ?_ NB397_394.out _ | refine IsS100.far ?_ NB397_407.out _) | exact HI397.out))
        (case side2 => repeat (first | (with_reducible first | exact HB.out | apply below_alloc | apply pw_below_drewN | apply below_drew1 | refine below_set ?_ (IsS100.ge HI397.out) | refine below_set ?_ GE394.out | refine below_set ?_ GE407.out) | exact HB.out))
        rintro e w74 ⟨rfl, hi, hb, hk⟩
        refine ⟨_, rfl, ?_⟩
        have n0_ := Aside0.mk (KeepBut.blk hk (g' := gb394) (o := .cells #[.int .i64 0, .int .i64 0, .int .i64 0, .int .i64 0, .int .i64 0, .int .i64 0, .int .i64 0, .int .i64 0] 25 (0, 0)) (by (with_reducible repeat (first | refine blk_drewN ?_ _ | refine blk_drew ?_ | refine blk_alloc ?_ _)); exact BK394.out) NB394_397.out (by simp))
        have n1_ := Aside0.mk (KeepBut.blk hk (g' := gb407) (o := .cells #[.int .i64 x408000_1, .int .i64 x408001_1, .int .i64 x408002_1, .int .i64 x408003_1, .int .i64 x408004_1, .int .i64 x408005_1, .int .i64 x408006_1, .int .i64 x408007_1] 25 (0, 0)) (by (with_reducible repeat (first | refine blk_drewN ?_ _ | refine blk_drew ?_ | refine blk_alloc ?_ _)); exact BK407.out) NB407_397.out (by simp))
        have n2_ := Aside0.mk (hb)
        have n3_ := Aside0.mk (hi)
        clear BK394
        clear BK407
        clear HB
        clear HI397
        have BK394 := n0_
        have BK407 := n1_
        have HB := n2_
        have HI397 := n3_
        clear n0_ n1_ n2_ n3_
        (try clear hb)
        (try clear hb2)
        (try clear hk)
        (try clear hi)
        refine hK.out _ _ ⟨(blk_cell BK407.out 0).trans rfl, (blk_cell BK407.out 1).trans rfl, (blk_cell BK407.out 2).trans rfl, (blk_cell BK407.out 3).trans rfl, (blk_cell BK407.out 4).trans rfl, (blk_cell BK407.out 5).trans rfl, (blk_cell BK407.out 6).trans rfl, (blk_cell BK407.out 7).trans rfl⟩ (fun hHeld => ?_)
        clear hK K
        refine norm_ (a' := ?_) ?_ ?_
        rotate_left
        · show Act.put _ (some 34) _ = _
          simp only [Act.put, List.setIfInBounds_toArray, List.set_cons_zero, List.set_cons_succ, i64_w, i32_w]
          rfl
        refine one_ (i := 4) (N := some 36) #[true, true, true, true, true, false, false, false, false, false] rfl rfl (one_of HT_.out (by kernel_rfl)) (by decide) (fun K hK => ?_)
        refine goes_ Try.func93 (by kernel_rfl) rfl #[.pointer (some ⟨g397, 0, none⟩), .int .i64 24] (by rfl) rfl rfl (by (try simp only [List.map_toArray, List.map_cons, List.map_nil]); first | done | rfl | (simp only [List.length_drop, List.length_take]; rfl)) ?_
        with_reducible refine (spec_l6Rd_pick.calls k1 g397 t395 t432 24 t433 t434 w _ ?side1 ?side2 A72.out).mono ?_
        (case side1 => repeat (first | (with_reducible first | exact HI397.out | apply IsS100.alloc | apply IsS100.drewN | apply IsS100.drew | apply IsS100.set_1 | refine IsS100.far ?_ NB397_394.out _ | refine IsS100.far ?_ NB397_407.out _) | exact HI397.out))
        (case side2 => repeat (first | (with_reducible first | exact HB.out | apply below_alloc | apply pw_below_drewN | apply below_drew1 | refine below_set ?_ (IsS100.ge HI397.out) | refine below_set ?_ GE394.out | refine below_set ?_ GE407.out) | exact HB.out))
        rintro e w75 ⟨rfl, hi, hb, hk⟩
        refine ⟨_, rfl, ?_⟩
        have n0_ := Aside0.mk (KeepBut.blk hk (g' := gb394) (o := .cells #[.int .i64 0, .int .i64 0, .int .i64 0, .int .i64 0, .int .i64 0, .int .i64 0, .int .i64 0, .int .i64 0] 25 (0, 0)) (by (with_reducible repeat (first | refine blk_drewN ?_ _ | refine blk_drew ?_ | refine blk_alloc ?_ _)); exact BK394.out) NB394_397.out (by simp))
        have n1_ := Aside0.mk (KeepBut.blk hk (g' := gb407) (o := .cells #[.int .i64 x408000_1, .int .i64 x408001_1, .int .i64 x408002_1, .int .i64 x408003_1, .int .i64 x408004_1, .int .i64 x408005_1, .int .i64 x408006_1, .int .i64 x408007_1] 25 (0, 0)) (by (with_reducible repeat (first | refine blk_drewN ?_ _ | refine blk_drew ?_ | refine blk_alloc ?_ _)); exact BK407.out) NB407_397.out (by simp))
        have n2_ := Aside0.mk (hb)
        have n3_ := Aside0.mk (hi)
        clear BK394
        clear BK407
        clear HB
        clear HI397
        have BK394 := n0_
        have BK407 := n1_
        have HB := n2_
        have HI397 := n3_
        clear n0_ n1_ n2_ n3_
        (try clear hb)
        (try clear hb2)
        (try clear hk)
        (try clear hi)
        refine hK.out _ _ ⟨(blk_cell BK407.out 0).trans rfl, (blk_cell BK407.out 1).trans rfl, (blk_cell BK407.out 2).trans rfl, (blk_cell BK407.out 3).trans rfl, (blk_cell BK407.out 4).trans rfl, (blk_cell BK407.out 5).trans rfl, (blk_cell BK407.out 6).trans rfl, (blk_cell BK407.out 7).trans rfl⟩ (fun hHeld => ?_)
        clear hK K
        refine norm_ (a' := ?_) ?_ ?_
        rotate_left
        · show Act.put _ (some 36) _ = _
          simp only [Act.put, List.setIfInBounds_toArray, List.set_cons_zero, List.set_cons_succ, i64_w, i32_w]
          rfl
        refine pure_ (i := 5) (N := some 37) (v := ?_) (a' := ?_) #[true, true, true, true, true, true, false, false, false, false] rfl rfl (any_of HT_.out (by kernel_rfl)) (fun _ _ _ h => h) (Or.inl ⟨by rfl, ?_⟩) ?_ ?_
        rotate_left
        · intro w'
          go_simp
          with_reducible rfl
        rotate_left
        · simp only [Act.put, List.setIfInBounds_toArray, List.set_cons_zero, List.set_cons_succ, i64_w, i32_w]
          rfl
        refine pure_ (i := 6) (N := some 38) (v := ?_) (a' := ?_) #[true, true, true, true, true, true, true, false, false, false] rfl rfl (any_of HT_.out (by kernel_rfl)) (fun _ _ _ h => h) (Or.inl ⟨by rfl, ?_⟩) ?_ ?_
        rotate_left
        · intro w'
          go_simp
          with_reducible rfl
        rotate_left
        · simp only [Act.put, List.setIfInBounds_toArray, List.set_cons_zero, List.set_cons_succ, i64_w, i32_w]
          rfl
        refine pure_ (i := 7) (N := some 39) (v := ?_) (a' := ?_) #[true, true, true, true, true, true, true, true, false, false] rfl rfl (any_of HT_.out (by kernel_rfl)) (fun _ _ _ h => h) (Or.inl ⟨by rfl, ?_⟩) ?_ ?_
        rotate_left
        · intro w'
          go_simp
          with_reducible rfl
        rotate_left
        · simp only [Act.put, List.setIfInBounds_toArray, List.set_cons_zero, List.set_cons_succ, i64_w, i32_w]
          rfl
        refine one_ (i := 8) (N := none) #[true, true, true, true, true, true, true, true, true, false] rfl rfl (one_of HT_.out (by kernel_rfl)) (by decide) (fun K hK => ?_)
        have hs76 : w75.cell? ⟨gb394, 0, none⟩ = some (.int .i64 0) := (blk_cell BK394.out 0).trans rfl
        have hfs76 := blk_frozen BK394.out 0
        have hns76_1 := NB407_394.out
        have hms76_1 := NB394_407.out
        have hs77 : w75.cell? ⟨gb394, 1, none⟩ = some (.int .i64 0) := (blk_cell BK394.out 1).trans rfl
        have hfs77 := blk_frozen BK394.out 1
        have hns77_1 := NB407_394.out
        have hms77_1 := NB394_407.out
        have hs78 : w75.cell? ⟨gb394, 2, none⟩ = some (.int .i64 0) := (blk_cell BK394.out 2).trans rfl
        have hfs78 := blk_frozen BK394.out 2
        have hns78_1 := NB407_394.out
        have hms78_1 := NB394_407.out
        have hs79 : w75.cell? ⟨gb394, 3, none⟩ = some (.int .i64 0) := (blk_cell BK394.out 3).trans rfl
        have hfs79 := blk_frozen BK394.out 3
        have hns79_1 := NB407_394.out
        have hms79_1 := NB394_407.out
        have hs80 : w75.cell? ⟨gb394, 4, none⟩ = some (.int .i64 0) := (blk_cell BK394.out 4).trans rfl
        have hfs80 := blk_frozen BK394.out 4
        have hns80_1 := NB407_394.out
        have hms80_1 := NB394_407.out
        have hs81 : w75.cell? ⟨gb394, 5, none⟩ = some (.int .i64 0) := (blk_cell BK394.out 5).trans rfl
        have hfs81 := blk_frozen BK394.out 5
        have hns81_1 := NB407_394.out
        have hms81_1 := NB394_407.out
        have hs82 : w75.cell? ⟨gb394, 6, none⟩ = some (.int .i64 0) := (blk_cell BK394.out 6).trans rfl
        have hfs82 := blk_frozen BK394.out 6
        have hns82_1 := NB407_394.out
        have hms82_1 := NB394_407.out
        have hs83 : w75.cell? ⟨gb394, 7, none⟩ = some (.int .i64 0) := (blk_cell BK394.out 7).trans rfl
        have hfs83 := blk_frozen BK394.out 7
        have hns83_1 := NB407_394.out
        have hms83_1 := NB394_407.out
        refine skip_ (w1 := ?_) (by rfl) rfl ?_ ?_
        rotate_left
        · go_simp
          rfl
        refine hK.out _ _ ⟨((cell_far (p := ⟨gb394, _, none⟩) NB407_394.out _).trans (((cell_far (p := ⟨gb394, _, none⟩) NB407_394.out _).trans (((cell_far (p := ⟨gb394, _, none⟩) NB407_394.out _).trans (((cell_far (p := ⟨gb394, _, none⟩) NB407_394.out _).trans (((cell_far (p := ⟨gb394, _, none⟩) NB407_394.out _).trans (((cell_far (p := ⟨gb394, _, none⟩) NB407_394.out _).trans (((cell_far (p := ⟨gb394, _, none⟩) NB407_394.out _).trans (((cell_far (p := ⟨gb394, _, none⟩) NB407_394.out _).trans (hHeld.1)))))))))))))))), ((cell_far (p := ⟨gb394, _, none⟩) NB407_394.out _).trans (((cell_far (p := ⟨gb394, _, none⟩) NB407_394.out _).trans (((cell_far (p := ⟨gb394, _, none⟩) NB407_394.out _).trans (((cell_far (p := ⟨gb394, _, none⟩) NB407_394.out _).trans (((cell_far (p := ⟨gb394, _, none⟩) NB407_394.out _).trans (((cell_far (p := ⟨gb394, _, none⟩) NB407_394.out _).trans (((cell_far (p := ⟨gb394, _, none⟩) NB407_394.out _).trans (((cell_far (p := ⟨gb394, _, none⟩) NB407_394.out _).trans (hHeld.2.1)))))))))))))))), ((cell_far (p := ⟨gb394, _, none⟩) NB407_394.out _).trans (((cell_far (p := ⟨gb394, _, none⟩) NB407_394.out _).trans (((cell_far (p := ⟨gb394, _, none⟩) NB407_394.out _).trans (((cell_far (p := ⟨gb394, _, none⟩) NB407_394.out _).trans (((cell_far (p := ⟨gb394, _, none⟩) NB407_394.out _).trans (((cell_far (p := ⟨gb394, _, none⟩) NB407_394.out _).trans (((cell_far (p := ⟨gb394, _, none⟩) NB407_394.out _).trans (((cell_far (p := ⟨gb394, _, none⟩) NB407_394.out _).trans (hHeld.2.2.1)))))))))))))))), ((cell_far (p := ⟨gb394, _, none⟩) NB407_394.out _).trans (((cell_far (p := ⟨gb394, _, none⟩) NB407_394.out _).trans (((cell_far (p := ⟨gb394, _, none⟩) NB407_394.out _).trans (((cell_far (p := ⟨gb394, _, none⟩) NB407_394.out _).trans (((cell_far (p := ⟨gb394, _, none⟩) NB407_394.out _).trans (((cell_far (p := ⟨gb394, _, none⟩) NB407_394.out _).trans (((cell_far (p := ⟨gb394, _, none⟩) NB407_394.out _).trans (((cell_far (p := ⟨gb394, _, none⟩) NB407_394.out _).trans (hHeld.2.2.2.1)))))))))))))))), ((cell_far (p := ⟨gb394, _, none⟩) NB407_394.out _).trans (((cell_far (p := ⟨gb394, _, none⟩) NB407_394.out _).trans (((cell_far (p := ⟨gb394, _, none⟩) NB407_394.out _).trans (((cell_far (p := ⟨gb394, _, none⟩) NB407_394.out _).trans (((cell_far (p := ⟨gb394, _, none⟩) NB407_394.out _).trans (((cell_far (p := ⟨gb394, _, none⟩) NB407_394.out _).trans (((cell_far (p := ⟨gb394, _, none⟩) NB407_394.out _).trans (((cell_far (p := ⟨gb394, _, none⟩) NB407_394.out _).trans (hHeld.2.2.2.2.1)))))))))))))))), ((cell_far (p := ⟨gb394, _, none⟩) NB407_394.out _).trans (((cell_far (p := ⟨gb394, _, none⟩) NB407_394.out _).trans (((cell_far (p := ⟨gb394, _, none⟩) NB407_394.out _).trans (((cell_far (p := ⟨gb394, _, none⟩) NB407_394.out _).trans (((cell_far (p := ⟨gb394, _, none⟩) NB407_394.out _).trans (((cell_far (p := ⟨gb394, _, none⟩) NB407_394.out _).trans (((cell_far (p := ⟨gb394, _, none⟩) NB407_394.out _).trans (((cell_far (p := ⟨gb394, _, none⟩) NB407_394.out _).trans (hHeld.2.2.2.2.2.1)))))))))))))))), ((cell_far (p := ⟨gb394, _, none⟩) NB407_394.out _).trans (((cell_far (p := ⟨gb394, _, none⟩) NB407_394.out _).trans (((cell_far (p := ⟨gb394, _, none⟩) NB407_394.out _).trans (((cell_far (p := ⟨gb394, _, none⟩) NB407_394.out _).trans (((cell_far (p := ⟨gb394, _, none⟩) NB407_394.out _).trans (((cell_far (p := ⟨gb394, _, none⟩) NB407_394.out _).trans (((cell_far (p := ⟨gb394, _, none⟩) NB407_394.out _).trans (((cell_far (p := ⟨gb394, _, none⟩) NB407_394.out _).trans (hHeld.2.2.2.2.2.2.1)))))))))))))))), ((cell_far (p := ⟨gb394, _, none⟩) NB407_394.out _).trans (((cell_far (p := ⟨gb394, _, none⟩) NB407_394.out _).trans (((cell_far (p := ⟨gb394, _, none⟩) NB407_394.out _).trans (((cell_far (p := ⟨gb394, _, none⟩) NB407_394.out _).trans (((cell_far (p := ⟨gb394, _, none⟩) NB407_394.out _).trans (((cell_far (p := ⟨gb394, _, none⟩) NB407_394.out _).trans (((cell_far (p := ⟨gb394, _, none⟩) NB407_394.out _).trans (((cell_far (p := ⟨gb394, _, none⟩) NB407_394.out _).trans (hHeld.2.2.2.2.2.2.2))))))))))))))))⟩ (fun hHeld => ?_)
        clear hK K
        refine pure_ (i := 9) (N := some 3) (v := ?_) (a' := ?_) #[true, true, true, true, true, true, true, true, true, true] rfl rfl (any_of HT_.out (by kernel_rfl)) (fun _ _ _ h => h) (Or.inl ⟨by rfl, ?_⟩) ?_ ?_
        rotate_left
        · intro w'
          go_simp
          with_reducible rfl
        rotate_left
        · simp only [Act.put, List.setIfInBounds_toArray, List.set_cons_zero, List.set_cons_succ, i64_w, i32_w]
          rfl
        refine done_ (done_of HT_.out (by kernel_rfl)) ?_
        try go_wp2
        refine bodyPost_ret (results_ct rfl _ _ gb394 25 #[.int .i64 x408000_1, .int .i64 x408001_1, .int .i64 x408002_1, .int .i64 x408003_1, .int .i64 x408004_1, .int .i64 x408005_1, .int .i64 x408006_1, .int .i64 x408007_1] (0, 0) _ rfl (by (with_reducible repeat (first | refine blk_drewN ?_ _ | refine blk_drew ?_ | refine blk_alloc ?_ _)); refine blk_put (cs := #[.int .i64 x408000_1, .int .i64 x408001_1, .int .i64 x408002_1, .int .i64 x408003_1, .int .i64 x408004_1, .int .i64 x408005_1, .int .i64 x408006_1, .int .i64 0]) ?_ 7 _ rfl; (with_reducible repeat (first | refine blk_drewN ?_ _ | refine blk_drew ?_ | refine blk_alloc ?_ _)); refine blk_put (cs := #[.int .i64 x408000_1, .int .i64 x408001_1, .int .i64 x408002_1, .int .i64 x408003_1, .int .i64 x408004_1, .int .i64 x408005_1, .int .i64 0, .int .i64 0]) ?_ 6 _ rfl; (with_reducible repeat (first | refine blk_drewN ?_ _ | refine blk_drew ?_ | refine blk_alloc ?_ _)); refine blk_put (cs := #[.int .i64 x408000_1, .int .i64 x408001_1, .int .i64 x408002_1, .int .i64 x408003_1, .int .i64 x408004_1, .int .i64 0, .int .i64 0, .int .i64 0]) ?_ 5 _ rfl; (with_reducible repeat (first | refine blk_drewN ?_ _ | refine blk_drew ?_ | refine blk_alloc ?_ _)); refine blk_put (cs := #[.int .i64 x408000_1, .int .i64 x408001_1, .int .i64 x408002_1, .int .i64 x408003_1, .int .i64 0, .int .i64 0, .int .i64 0, .int .i64 0]) ?_ 4 _ rfl; (with_reducible repeat (first | refine blk_drewN ?_ _ | refine blk_drew ?_ | refine blk_alloc ?_ _)); refine blk_put (cs := #[.int .i64 x408000_1, .int .i64 x408001_1, .int .i64 x408002_1, .int .i64 0, .int .i64 0, .int .i64 0, .int .i64 0, .int .i64 0]) ?_ 3 _ rfl; (with_reducible repeat (first | refine blk_drewN ?_ _ | refine blk_drew ?_ | refine blk_alloc ?_ _)); refine blk_put (cs := #[.int .i64 x408000_1, .int .i64 x408001_1, .int .i64 0, .int .i64 0, .int .i64 0, .int .i64 0, .int .i64 0, .int .i64 0]) ?_ 2 _ rfl; (with_reducible repeat (first | refine blk_drewN ?_ _ | refine blk_drew ?_ | refine blk_alloc ?_ _)); refine blk_put (cs := #[.int .i64 x408000_1, .int .i64 0, .int .i64 0, .int .i64 0, .int .i64 0, .int .i64 0, .int .i64 0, .int .i64 0]) ?_ 1 _ rfl; (with_reducible repeat (first | refine blk_drewN ?_ _ | refine blk_drew ?_ | refine blk_alloc ?_ _)); refine blk_put (cs := #[.int .i64 0, .int .i64 0, .int .i64 0, .int .i64 0, .int .i64 0, .int .i64 0, .int .i64 0, .int .i64 0]) ?_ 0 _ rfl; (with_reducible repeat (first | refine blk_drewN ?_ _ | refine blk_drew ?_ | refine blk_alloc ?_ _)); exact BK394.out) Try.underlying25 rfl (by kernel_rfl)) rfl ?_
        exact ⟨by first | rfl | (simp [errW_none, errW_some] <;> rfl) | (simp [*, errW_none, errW_some] <;> rfl), by repeat (first | (with_reducible first | exact HB.out | apply below_alloc | apply pw_below_drewN | apply below_drew1 | refine below_set ?_ (IsS100.ge HI397.out) | refine below_set ?_ GE394.out | refine below_set ?_ GE407.out) | exact HB.out)⟩


end Go.Proofs.Ytjicmjfnmdhahaa.Pr
