-- Laid by a program (extract.py) out of this seat's translation: contracts of a few functions, a text a function; Lean checks them.
import Derived.Test.YtajdjoggflagdaaDoorPrK
import Derived.Test.YtajdjoggflagdaaDoorPrLC
import Derived.Test.YtajdjoggflagdaaDoorBu
import Derived.Test.YtajdjoggflagdaaDoorSq
namespace Go.Proofs.YtajdjoggflagdaaDoor.Pr
open Go.RowKit Go.Proofs.YtajdjoggflagdaaDoorW.PrintWords Go.Proofs.YtajdjoggflagdaaDoorW.PrintLast Go.Proofs.YtajdjoggflagdaaDoorW.PrintMore
attribute [local go_sem] max2_int min2_int max_two min_two max_three min_three max_four min_four
set_option linter.unusedVariables false
set_option linter.unusedSimpArgs false
theorem hideS_ {K : Act → World → Prop} {Q : Exit → Act → World → Prop} {a : Act} {w : World} (F : World → Prop) (hF : F w) (h : ∀ w', F w' → Exit.then K Q .normal a w') : Exit.then K Q .normal a w := h w hF
theorem far8 {W : World} {g : Nat} {a : Addr} (h : a.block ≠ g) (v0 v1 v2 v3 v4 v5 v6 v7 : Value) : ((((((((W.setCell ⟨g, 0, none⟩ v0).setCell ⟨g, 1, none⟩ v1).setCell ⟨g, 2, none⟩ v2).setCell ⟨g, 3, none⟩ v3).setCell ⟨g, 4, none⟩ v4).setCell ⟨g, 5, none⟩ v5).setCell ⟨g, 6, none⟩ v6).setCell ⟨g, 7, none⟩ v7).cell? a = W.cell? a := by
 rw [cell_far h, cell_far h, cell_far h, cell_far h, cell_far h, cell_far h, cell_far h, cell_far h]
theorem blk_own {n c : Nat} {ad : Addr} {g : Nat} (hne : some g ≠ (Value.slice (some ad) n c).ownBlock) : ad.block ≠ g := by
 rintro rfl
 exact hne (by simp [Value.ownBlock])
/-! ### spec_RecRead: function 27 -/
def spec_RecRead.l0 : Nat → ByteArray → List ByteArray → Int → Int → Int → Int → Int → Int → Int → Int → Int → Option (Int × Int × Int × Int × Int × Int × Int × Int × Bool)
 | 0, _, _, _, _, _, _, _, _, _, _, _ => none
 | k + 1, x0, x4, x6, x221000, x221001, x221002, x221003, x221004, x221005, x221006, x221007 => (spec_l2Names.f).bind fun t221 => (if x6 < (t221.length : Int) then ((spec_l2Names.f).bind fun t224 => (if 0 ≤ x6 then (if x6 < (t224.length : Int) then (if 0 < (x4.length : Int) then (if (rdOf ByteArray.empty t224 x6).toList = (rdOf ByteArray.empty x4 0).toList then (spec_RecRead.l0 k x0 x4 (wrap64 (x6 + 1)) x6 x221001 x221002 x221003 x221004 x221005 x221006 x221007) else (spec_RecRead.l0 k x0 x4 (wrap64 (x6 + 1)) x221000 x221001 x221002 x221003 x221004 x221005 x221006 x221007)) else (none)) else (none)) else (none))) else (if x0.toList = ([] : List UInt8) then (some (0, 0, 0, 0, 0, 0, 0, 0, false)) else ((spec_RecText.f k x221000 x221001 x221002 x221003 x221004 x221005 x221006 x221007).bind fun t229 => (if t229.toList = x0.toList then (some (x221000, x221001, x221002, x221003, x221004, x221005, x221006, x221007, true)) else (some (0, 0, 0, 0, 0, 0, 0, 0, false))))))
def spec_RecRead.f (k : Nat) (a0 : ByteArray) : Option (Int × Int × Int × Int × Int × Int × Int × Int × Bool) := if (a0.size : Int) > 30 then (some (0, 0, 0, 0, 0, 0, 0, 0, false)) else ((spec_l2Cut.f k a0).bind fun t203 => (if (t203.length : Int) = 8 then (if 1 < (t203.length : Int) then ((spec_l2Num.f k (rdOf ByteArray.empty t203 1)).bind fun t207 => (if 2 < (t203.length : Int) then ((spec_l2Num.f k (rdOf ByteArray.empty t203 2)).bind fun t209 => (if 3 < (t203.length : Int) then ((spec_l2Num.f k (rdOf ByteArray.empty t203 3)).bind fun t211 => (if 4 < (t203.length : Int) then ((spec_l2Num.f k (rdOf ByteArray.empty t203 4)).bind fun t213 => (if 5 < (t203.length : Int) then ((spec_l2Num.f k (rdOf ByteArray.empty t203 5)).bind fun t215 => (if 6 < (t203.length : Int) then ((spec_l2Num.f k (rdOf ByteArray.empty t203 6)).bind fun t217 => (if 7 < (t203.length : Int) then ((spec_l2Num.f k (rdOf ByteArray.empty t203 7)).bind fun t219 => (spec_RecRead.l0 k a0 t203 1 0 t207 t209 t211 t213 t215 t217 t219)) else (none))) else (none))) else (none))) else (none))) else (none))) else (none))) else (none)) else (some (0, 0, 0, 0, 0, 0, 0, 0, false))))
theorem spec_RecRead.mono_l : ∀ k, (∀ y0 y1 y2 y3 y4 y5 y6 y7 y8 y9 y10, LeO (spec_RecRead.l0 k y0 y1 y2 y3 y4 y5 y6 y7 y8 y9 y10) (spec_RecRead.l0 (k + 1) y0 y1 y2 y3 y4 y5 y6 y7 y8 y9 y10))
 | 0 => fun _ _ _ _ _ _ _ _ _ _ _ r h => by simp [spec_RecRead.l0] at h
 | k + 1 => by
  have ih0 := spec_RecRead.mono_l k
  ·intro y0 y1 y2 y3 y4 y5 y6 y7 y8 y9 y10
   unfold spec_RecRead.l0
   repeat' first
   | (with_reducible exact ih0 _ _ _ _ _ _ _ _ _ _ _)
   | (with_reducible exact spec_RecText.mono _ _ _ _ _ _ _ _ _)
   | (with_reducible exact spec_l2Cut.mono _ _)
   | (with_reducible exact spec_l2Num.mono _ _)
   | (with_reducible exact LeO.refl _)
   | (with_reducible exact LeO.none _)
   | (with_reducible refine LeO.ite ?_ ?_)
   | (with_reducible refine LeO.bind ?_ (fun _ => ?_))
   | exact ih0 _ _ _ _ _ _ _ _ _ _ _
   | exact spec_RecText.mono _ _ _ _ _ _ _ _ _
   | exact spec_l2Cut.mono _ _
   | exact spec_l2Num.mono _ _
   | exact LeO.none _
   | refine LeO.ite ?_ ?_
   | refine LeO.bind ?_ (fun _ => ?_)
theorem spec_RecRead.mono : ∀ a0 k, LeO (spec_RecRead.f k a0) (spec_RecRead.f (k + 1) a0) := by
 intro a0 k
 have ih0 := spec_RecRead.mono_l k
 unfold spec_RecRead.f
 repeat' first
   | (with_reducible exact ih0 _ _ _ _ _ _ _ _ _ _ _)
   | (with_reducible exact spec_RecText.mono _ _ _ _ _ _ _ _ _)
   | (with_reducible exact spec_l2Cut.mono _ _)
   | (with_reducible exact spec_l2Num.mono _ _)
   | (with_reducible exact LeO.refl _)
   | (with_reducible exact LeO.none _)
   | (with_reducible refine LeO.ite ?_ ?_)
   | (with_reducible refine LeO.bind ?_ (fun _ => ?_))
   | exact ih0 _ _ _ _ _ _ _ _ _ _ _
   | exact spec_RecText.mono _ _ _ _ _ _ _ _ _
   | exact spec_l2Cut.mono _ _
   | exact spec_l2Num.mono _ _
   | exact LeO.none _
   | refine LeO.ite ?_ ?_
   | refine LeO.bind ?_ (fun _ => ?_)
def spec_RecRead.T6 : Bool × List (List Nat × List Nat) := (true, [([], []), ([0], [0]), ([1], [1]), ([2], [2]), ([], []), ([4], [4]), ([5], [5]), ([6, 3], [6]), ([], []), ([8], [8]), ([9], [9]), ([10, 7], [10]), ([], []), ([12], [12]), ([13], [13]), ([14, 11], [14]), ([], []), ([16], [16]), ([17], [17]), ([18, 15], [18]), ([], []), ([20], [20]), ([21], [21]), ([22, 19], [22]), ([], []), ([24], [24]), ([25], [25]), ([26, 23], [26]), ([3, 7, 11, 15, 19, 23, 27], [3, 7, 11, 15, 19, 23, 27]), ([], []), ([29, 28, 27, 0, 1, 2, 3, 4, 5, 6, 7, 8, 9, 10, 11, 12, 13, 14, 15, 16, 17, 18, 19, 20, 21, 22, 23, 24, 25, 26, 27, 28, 29], [28, 29])])
def spec_RecRead.B6 : List Nat := [0, 1, 3, 7, 0, 16, 48, 127, 0, 256, 768, 2047, 0, 4096, 12288, 32767, 0, 65536, 196608, 524287, 0, 1048576, 3145728, 8388607, 0, 16777216, 50331648, 134217727, 268435455, 0, 1073741823]
theorem spec_RecRead.tab6 : rtab .any (opsOf Tryd.f27 6) = spec_RecRead.T6 := by kernel_rfl
theorem spec_RecRead.bits6 : waitsOk spec_RecRead.T6.2 spec_RecRead.B6 = true := by kernel_rfl
def spec_RecRead.T10 : Bool × List (List Nat × List Nat) := (true, [([], []), ([], []), ([0, 1], [0, 1]), ([2], [2]), ([], []), ([4], [4]), ([5], [5]), ([3, 6], [3, 6])])
def spec_RecRead.B10 : List Nat := [0, 0, 3, 7, 0, 16, 48, 127]
theorem spec_RecRead.tab10 : rtab .any (opsOf Tryd.f27 10) = spec_RecRead.T10 := by kernel_rfl
theorem spec_RecRead.bits10 : waitsOk spec_RecRead.T10.2 spec_RecRead.B10 = true := by kernel_rfl
set_option maxHeartbeats 8000000 in
set_option maxRecDepth 100000 in
theorem spec_RecRead.calls (k : Nat) (a0 : ByteArray) (r1 : Int) (r2 : Int) (r3 : Int) (r4 : Int) (r5 : Int) (r6 : Int) (r7 : Int) (r8 : Int) (r9 : Bool) (w : World) (h : spec_RecRead.f k a0 = some (r1, r2, r3, r4, r5, r6, r7, r8, r9)) :
  Calls Tryd.prog 27 #[.string a0] w fun e w' => e = .returned (.tuple #[.agg #[.int .i64 r1, .int .i64 r2, .int .i64 r3, .int .i64 r4, .int .i64 r5, .int .i64 r6, .int .i64 r7, .int .i64 r8], .bool r9]) ∧ Below w.heap.size w w' := by
 have hu37 := Tryd.underlying37
 have HB := az (Below.refl w.heap.size w)
 have H : (if (a0.size : Int) > 30 then (some (0, 0, 0, 0, 0, 0, 0, 0, false)) else ((spec_l2Cut.f k a0).bind fun t203 => (if (t203.length : Int) = 8 then (if 1 < (t203.length : Int) then ((spec_l2Num.f k (rdOf ByteArray.empty t203 1)).bind fun t207 => (if 2 < (t203.length : Int) then ((spec_l2Num.f k (rdOf ByteArray.empty t203 2)).bind fun t209 => (if 3 < (t203.length : Int) then ((spec_l2Num.f k (rdOf ByteArray.empty t203 3)).bind fun t211 => (if 4 < (t203.length : Int) then ((spec_l2Num.f k (rdOf ByteArray.empty t203 4)).bind fun t213 => (if 5 < (t203.length : Int) then ((spec_l2Num.f k (rdOf ByteArray.empty t203 5)).bind fun t215 => (if 6 < (t203.length : Int) then ((spec_l2Num.f k (rdOf ByteArray.empty t203 6)).bind fun t217 => (if 7 < (t203.length : Int) then ((spec_l2Num.f k (rdOf ByteArray.empty t203 7)).bind fun t219 => (spec_RecRead.l0 k a0 t203 1 0 t207 t209 t211 t213 t215 t217 t219)) else (none))) else (none))) else (none))) else (none))) else (none))) else (none))) else (none)) else (some (0, 0, 0, 0, 0, 0, 0, 0, false))))) = some (r1, r2, r3, r4, r5, r6, r7, r8, r9) := h
 clear h
 by_cases c2 : (a0.size : Int) > 30
 ·rw [if_pos c2] at H
  have c2b0 : decide (30 < (a0.size : Int)) = true := decide_eq_true c2
  have c2b1 : decide (30 < a0.size) = true := decide_eq_true (by omega)
  clear c2
  simp only [Option.some.injEq, Prod.mk.injEq] at H
  obtain ⟨rfl, rfl, rfl, rfl, rfl, rfl, rfl, rfl, rfl⟩ := H
  go_enter Tryd.func27, Tryd.ntmps27
  go_wp2_with (first | ((with_reducible refine gate_dst (N := 2) rfl ?_); refine box_event ?hg (N := 2) ?hd (cs := #[.int .i64 0, .int .i64 0, .int .i64 0, .int .i64 0, .int .i64 0, .int .i64 0, .int .i64 0, .int .i64 0]) (t := 37) ?hr ?_; (case hd => rfl); (case hg => rfl); (case hr => first | (go_simp; done) | (go_simp; rfl)); intro gb202 hg w3 hbox hb; have BK202 := az (hbox); have GW202 := az ((by rw [hg]; exact (below_size (by repeat (first | (with_reducible first | exact HB.out | apply wa | apply wn | apply wd) | exact HB.out))) : w.heap.size ≤ gb202)); have GE202 := GW202; replace HB := az (below_step (by repeat (first | (with_reducible first | exact HB.out | apply wa | apply wn | apply wd) | exact HB.out)) hb); clear hb hbox hg; obtain ⟨hcz4_0, hcz4_1, hcz4_2, hcz4_3, hcz4_4, hcz4_5, hcz4_6, hcz4_7⟩ := cz8 BK202; obtain ⟨hfz4_0, hfz4_1, hfz4_2, hfz4_3, hfz4_4, hfz4_5, hfz4_6⟩ := fz7 BK202; have hfz4_7 := blk_frozen BK202.out 7))
  refine bodyPost_ret (results_ct rfl _ _ gb202 37 #[.int .i64 0, .int .i64 0, .int .i64 0, .int .i64 0, .int .i64 0, .int .i64 0, .int .i64 0, .int .i64 0] (0, 0) _ rfl (by (with_reducible repeat (first | apply bn | apply bd | apply ba)); exact p8 BK202) Tryd.underlying37 rfl (by kernel_rfl)) rfl ?_
  exact ⟨by first | rfl | (simp [errW_none, errW_some] <;> rfl) | (simp [*, errW_none, errW_some] <;> rfl), by repeat (first | (with_reducible first | exact HB.out | apply wa | apply wn | apply wd | refine ws ‹_› ?_) | exact HB.out)⟩
 ·rw [if_neg c2] at H
  have c2b0 : decide (30 < (a0.size : Int)) = false := decide_eq_false c2
  have c2b1 : decide (30 < a0.size) = false := decide_eq_false (by omega)
  clear c2
  replace H := Option.bind_eq_some_iff.mp H
  obtain ⟨t203, A50, H⟩ := H
  replace H : (if (t203.length : Int) = 8 then (if 1 < (t203.length : Int) then ((spec_l2Num.f k (rdOf ByteArray.empty t203 1)).bind fun t207 => (if 2 < (t203.length : Int) then ((spec_l2Num.f k (rdOf ByteArray.empty t203 2)).bind fun t209 => (if 3 < (t203.length : Int) then ((spec_l2Num.f k (rdOf ByteArray.empty t203 3)).bind fun t211 => (if 4 < (t203.length : Int) then ((spec_l2Num.f k (rdOf ByteArray.empty t203 4)).bind fun t213 => (if 5 < (t203.length : Int) then ((spec_l2Num.f k (rdOf ByteArray.empty t203 5)).bind fun t215 => (if 6 < (t203.length : Int) then ((spec_l2Num.f k (rdOf ByteArray.empty t203 6)).bind fun t217 => (if 7 < (t203.length : Int) then ((spec_l2Num.f k (rdOf ByteArray.empty t203 7)).bind fun t219 => (spec_RecRead.l0 k a0 t203 1 0 t207 t209 t211 t213 t215 t217 t219)) else (none))) else (none))) else (none))) else (none))) else (none))) else (none))) else (none)) else (some (0, 0, 0, 0, 0, 0, 0, 0, false))) = some (r1, r2, r3, r4, r5, r6, r7, r8, r9) := H
  have A5 := az A50
  clear A50
  by_cases c6 : (t203.length : Int) = 8
  ·rw [if_pos c6] at H
   have c6b0 : ((t203.length : Int) == 8) = true := beq_iff_eq.mpr c6
   have c6b1 : ((t203.length : Int) != 8) = false := bne_eq_false_iff_eq.mpr c6
   clear c6
   by_cases c7 : 1 < (t203.length : Int)
   ·rw [if_pos c7] at H
    have c7b0 : decide (1 < (t203.length : Int)) = true := decide_eq_true c7
    have c7b1 : decide (1 < t203.length) = true := decide_eq_true (by omega)
    clear c7
    replace H := Option.bind_eq_some_iff.mp H
    obtain ⟨t207, A80, H⟩ := H
    replace H : (if 2 < (t203.length : Int) then ((spec_l2Num.f k (rdOf ByteArray.empty t203 2)).bind fun t209 => (if 3 < (t203.length : Int) then ((spec_l2Num.f k (rdOf ByteArray.empty t203 3)).bind fun t211 => (if 4 < (t203.length : Int) then ((spec_l2Num.f k (rdOf ByteArray.empty t203 4)).bind fun t213 => (if 5 < (t203.length : Int) then ((spec_l2Num.f k (rdOf ByteArray.empty t203 5)).bind fun t215 => (if 6 < (t203.length : Int) then ((spec_l2Num.f k (rdOf ByteArray.empty t203 6)).bind fun t217 => (if 7 < (t203.length : Int) then ((spec_l2Num.f k (rdOf ByteArray.empty t203 7)).bind fun t219 => (spec_RecRead.l0 k a0 t203 1 0 t207 t209 t211 t213 t215 t217 t219)) else (none))) else (none))) else (none))) else (none))) else (none))) else (none)) = some (r1, r2, r3, r4, r5, r6, r7, r8, r9) := H
    have A8 := az A80
    clear A80
    by_cases c9 : 2 < (t203.length : Int)
    ·rw [if_pos c9] at H
     have c9b0 : decide (2 < (t203.length : Int)) = true := decide_eq_true c9
     have c9b1 : decide (2 < t203.length) = true := decide_eq_true (by omega)
     clear c9
     replace H := Option.bind_eq_some_iff.mp H
     obtain ⟨t209, A100, H⟩ := H
     replace H : (if 3 < (t203.length : Int) then ((spec_l2Num.f k (rdOf ByteArray.empty t203 3)).bind fun t211 => (if 4 < (t203.length : Int) then ((spec_l2Num.f k (rdOf ByteArray.empty t203 4)).bind fun t213 => (if 5 < (t203.length : Int) then ((spec_l2Num.f k (rdOf ByteArray.empty t203 5)).bind fun t215 => (if 6 < (t203.length : Int) then ((spec_l2Num.f k (rdOf ByteArray.empty t203 6)).bind fun t217 => (if 7 < (t203.length : Int) then ((spec_l2Num.f k (rdOf ByteArray.empty t203 7)).bind fun t219 => (spec_RecRead.l0 k a0 t203 1 0 t207 t209 t211 t213 t215 t217 t219)) else (none))) else (none))) else (none))) else (none))) else (none)) = some (r1, r2, r3, r4, r5, r6, r7, r8, r9) := H
     have A10 := az A100
     clear A100
     by_cases c11 : 3 < (t203.length : Int)
     ·rw [if_pos c11] at H
      have c11b0 : decide (3 < (t203.length : Int)) = true := decide_eq_true c11
      have c11b1 : decide (3 < t203.length) = true := decide_eq_true (by omega)
      clear c11
      replace H := Option.bind_eq_some_iff.mp H
      obtain ⟨t211, A120, H⟩ := H
      replace H : (if 4 < (t203.length : Int) then ((spec_l2Num.f k (rdOf ByteArray.empty t203 4)).bind fun t213 => (if 5 < (t203.length : Int) then ((spec_l2Num.f k (rdOf ByteArray.empty t203 5)).bind fun t215 => (if 6 < (t203.length : Int) then ((spec_l2Num.f k (rdOf ByteArray.empty t203 6)).bind fun t217 => (if 7 < (t203.length : Int) then ((spec_l2Num.f k (rdOf ByteArray.empty t203 7)).bind fun t219 => (spec_RecRead.l0 k a0 t203 1 0 t207 t209 t211 t213 t215 t217 t219)) else (none))) else (none))) else (none))) else (none)) = some (r1, r2, r3, r4, r5, r6, r7, r8, r9) := H
      have A12 := az A120
      clear A120
      by_cases c13 : 4 < (t203.length : Int)
      ·rw [if_pos c13] at H
       have c13b0 : decide (4 < (t203.length : Int)) = true := decide_eq_true c13
       have c13b1 : decide (4 < t203.length) = true := decide_eq_true (by omega)
       clear c13
       replace H := Option.bind_eq_some_iff.mp H
       obtain ⟨t213, A140, H⟩ := H
       replace H : (if 5 < (t203.length : Int) then ((spec_l2Num.f k (rdOf ByteArray.empty t203 5)).bind fun t215 => (if 6 < (t203.length : Int) then ((spec_l2Num.f k (rdOf ByteArray.empty t203 6)).bind fun t217 => (if 7 < (t203.length : Int) then ((spec_l2Num.f k (rdOf ByteArray.empty t203 7)).bind fun t219 => (spec_RecRead.l0 k a0 t203 1 0 t207 t209 t211 t213 t215 t217 t219)) else (none))) else (none))) else (none)) = some (r1, r2, r3, r4, r5, r6, r7, r8, r9) := H
       have A14 := az A140
       clear A140
       by_cases c15 : 5 < (t203.length : Int)
       ·rw [if_pos c15] at H
        have c15b0 : decide (5 < (t203.length : Int)) = true := decide_eq_true c15
        have c15b1 : decide (5 < t203.length) = true := decide_eq_true (by omega)
        clear c15
        replace H := Option.bind_eq_some_iff.mp H
        obtain ⟨t215, A160, H⟩ := H
        replace H : (if 6 < (t203.length : Int) then ((spec_l2Num.f k (rdOf ByteArray.empty t203 6)).bind fun t217 => (if 7 < (t203.length : Int) then ((spec_l2Num.f k (rdOf ByteArray.empty t203 7)).bind fun t219 => (spec_RecRead.l0 k a0 t203 1 0 t207 t209 t211 t213 t215 t217 t219)) else (none))) else (none)) = some (r1, r2, r3, r4, r5, r6, r7, r8, r9) := H
        have A16 := az A160
        clear A160
        by_cases c17 : 6 < (t203.length : Int)
        ·rw [if_pos c17] at H
         have c17b0 : decide (6 < (t203.length : Int)) = true := decide_eq_true c17
         have c17b1 : decide (6 < t203.length) = true := decide_eq_true (by omega)
         clear c17
         replace H := Option.bind_eq_some_iff.mp H
         obtain ⟨t217, A180, H⟩ := H
         replace H : (if 7 < (t203.length : Int) then ((spec_l2Num.f k (rdOf ByteArray.empty t203 7)).bind fun t219 => (spec_RecRead.l0 k a0 t203 1 0 t207 t209 t211 t213 t215 t217 t219)) else (none)) = some (r1, r2, r3, r4, r5, r6, r7, r8, r9) := H
         have A18 := az A180
         clear A180
         by_cases c19 : 7 < (t203.length : Int)
         ·rw [if_pos c19] at H
          have c19b0 : decide (7 < (t203.length : Int)) = true := decide_eq_true c19
          have c19b1 : decide (7 < t203.length) = true := decide_eq_true (by omega)
          clear c19
          replace H := Option.bind_eq_some_iff.mp H
          obtain ⟨t219, A200, H⟩ := H
          replace H : (spec_RecRead.l0 k a0 t203 1 0 t207 t209 t211 t213 t215 t217 t219) = some (r1, r2, r3, r4, r5, r6, r7, r8, r9) := H
          have A20 := az A200
          clear A200
          have H' := az H
          clear H
          go_enter Tryd.func27, Tryd.ntmps27
          try go_wp2_with (first | ((with_reducible refine gate_dst (N := 2) rfl ?_); refine box_event ?hg (N := 2) ?hd (cs := #[.int .i64 0, .int .i64 0, .int .i64 0, .int .i64 0, .int .i64 0, .int .i64 0, .int .i64 0, .int .i64 0]) (t := 37) ?hr ?_; (case hd => rfl); (case hg => rfl); (case hr => first | (go_simp; done) | (go_simp; rfl)); intro gb202 hg w21 hbox hb; have BK202 := az (hbox); have GW202 := az ((by rw [hg]; exact (below_size (by repeat (first | (with_reducible first | exact HB.out | apply wa | apply wn | apply wd) | exact HB.out))) : w.heap.size ≤ gb202)); have GE202 := GW202; replace HB := az (below_step (by repeat (first | (with_reducible first | exact HB.out | apply wa | apply wn | apply wd) | exact HB.out)) hb); clear hb hbox hg) | ((with_reducible refine gate_callee (f := 54) rfl ?_); refine goesL_ (some 12) rfl rfl Tryd.func54 (by kernel_rfl) rfl #[.string a0] rfl (by (try simp only [List.map_toArray, List.map_cons, List.map_nil]); first | done | rfl | (simp only [List.length_drop, List.length_take]; rfl)) ?_; (with_reducible refine (spec_l2Cut.calls k a0 t203 _ A5.out).mono ?_); rintro e w22 ⟨v204, rfl, ho0, hb⟩; refine ⟨_, rfl, ?_⟩; have HO205 := az (Kd.R_lower ho0 (below_size (by repeat (first | (with_reducible first | exact HB.out | apply wa | apply wn | apply wd | refine ws ‹_› ?_) | exact HB.out)))); replace BK202 := bb BK202 (fun h => by (with_reducible repeat (first | apply bn | apply bd | apply ba)); exact h) hb; replace HB := az (below_step (by repeat (first | (with_reducible first | exact HB.out | apply wa | apply wn | apply wd | refine ws ‹_› ?_) | exact HB.out)) hb); (try clear hb); (try clear hb2); (try clear hk); (try clear hi); (try clear ho0); obtain ⟨Ao23, co23, eo23⟩ := Kd.R_slice HO205.out; subst eo23))
          replace HO205 := az (Kd.R_drew HO205.out)
          replace BK202 := az (blk_drew BK202.out)
          replace HB := az (wd HB.out)
          have p206 : 0 ≤ (1 : Int) := (by omega)
          have q206 : 1 < (t203.length : Int) := of_decide_eq_true (by first | (with_reducible assumption) | assumption)
          obtain ⟨ad206, e206, hx206_0⟩ := Kd.at_string (Kd.R_reads' HO205.out).2.2 1 p206 q206
          cases e206
          (try simp only [show (1 : Int).toNat = 1 from rfl, Nat.reduceMul, Nat.reduceEqDiff, Go.Addr.add, ↓reduceIte] at hx206_0)
          have qi206 : (1 < t203.length) = True := eq_true (by omega)
          (try rw [show ((1 : Int)).toNat = 1 from rfl] at hx206_0)
          replace p206 := eq_true p206
          replace q206 := eq_true q206
          have p208 : 0 ≤ (2 : Int) := (by omega)
          have q208 : 2 < (t203.length : Int) := of_decide_eq_true (by first | (with_reducible assumption) | assumption)
          obtain ⟨ad208, e208, hx208_0⟩ := Kd.at_string (Kd.R_reads' HO205.out).2.2 2 p208 q208
          obtain rfl : ad206 = ad208 := (by injection e208)
          (try simp only [show (2 : Int).toNat = 2 from rfl, Nat.reduceMul, Nat.reduceEqDiff, Go.Addr.add, ↓reduceIte] at hx208_0)
          have qi208 : (2 < t203.length) = True := eq_true (by omega)
          (try rw [show ((2 : Int)).toNat = 2 from rfl] at hx208_0)
          replace p208 := eq_true p208
          replace q208 := eq_true q208
          have p210 : 0 ≤ (3 : Int) := (by omega)
          have q210 : 3 < (t203.length : Int) := of_decide_eq_true (by first | (with_reducible assumption) | assumption)
          obtain ⟨ad210, e210, hx210_0⟩ := Kd.at_string (Kd.R_reads' HO205.out).2.2 3 p210 q210
          obtain rfl : ad206 = ad210 := (by injection e210)
          (try simp only [show (3 : Int).toNat = 3 from rfl, Nat.reduceMul, Nat.reduceEqDiff, Go.Addr.add, ↓reduceIte] at hx210_0)
          have qi210 : (3 < t203.length) = True := eq_true (by omega)
          (try rw [show ((3 : Int)).toNat = 3 from rfl] at hx210_0)
          replace p210 := eq_true p210
          replace q210 := eq_true q210
          have p212 : 0 ≤ (4 : Int) := (by omega)
          have q212 : 4 < (t203.length : Int) := of_decide_eq_true (by first | (with_reducible assumption) | assumption)
          obtain ⟨ad212, e212, hx212_0⟩ := Kd.at_string (Kd.R_reads' HO205.out).2.2 4 p212 q212
          obtain rfl : ad206 = ad212 := (by injection e212)
          (try simp only [show (4 : Int).toNat = 4 from rfl, Nat.reduceMul, Nat.reduceEqDiff, Go.Addr.add, ↓reduceIte] at hx212_0)
          have qi212 : (4 < t203.length) = True := eq_true (by omega)
          (try rw [show ((4 : Int)).toNat = 4 from rfl] at hx212_0)
          replace p212 := eq_true p212
          replace q212 := eq_true q212
          have p214 : 0 ≤ (5 : Int) := (by omega)
          have q214 : 5 < (t203.length : Int) := of_decide_eq_true (by first | (with_reducible assumption) | assumption)
          obtain ⟨ad214, e214, hx214_0⟩ := Kd.at_string (Kd.R_reads' HO205.out).2.2 5 p214 q214
          obtain rfl : ad206 = ad214 := (by injection e214)
          (try simp only [show (5 : Int).toNat = 5 from rfl, Nat.reduceMul, Nat.reduceEqDiff, Go.Addr.add, ↓reduceIte] at hx214_0)
          have qi214 : (5 < t203.length) = True := eq_true (by omega)
          (try rw [show ((5 : Int)).toNat = 5 from rfl] at hx214_0)
          replace p214 := eq_true p214
          replace q214 := eq_true q214
          have p216 : 0 ≤ (6 : Int) := (by omega)
          have q216 : 6 < (t203.length : Int) := of_decide_eq_true (by first | (with_reducible assumption) | assumption)
          obtain ⟨ad216, e216, hx216_0⟩ := Kd.at_string (Kd.R_reads' HO205.out).2.2 6 p216 q216
          obtain rfl : ad206 = ad216 := (by injection e216)
          (try simp only [show (6 : Int).toNat = 6 from rfl, Nat.reduceMul, Nat.reduceEqDiff, Go.Addr.add, ↓reduceIte] at hx216_0)
          have qi216 : (6 < t203.length) = True := eq_true (by omega)
          (try rw [show ((6 : Int)).toNat = 6 from rfl] at hx216_0)
          replace p216 := eq_true p216
          replace q216 := eq_true q216
          have p218 : 0 ≤ (7 : Int) := (by omega)
          have q218 : 7 < (t203.length : Int) := of_decide_eq_true (by first | (with_reducible assumption) | assumption)
          obtain ⟨ad218, e218, hx218_0⟩ := Kd.at_string (Kd.R_reads' HO205.out).2.2 7 p218 q218
          obtain rfl : ad206 = ad218 := (by injection e218)
          (try simp only [show (7 : Int).toNat = 7 from rfl, Nat.reduceMul, Nat.reduceEqDiff, Go.Addr.add, ↓reduceIte] at hx218_0)
          have qi218 : (7 < t203.length) = True := eq_true (by omega)
          (try rw [show ((7 : Int)).toNat = 7 from rfl] at hx218_0)
          replace p218 := eq_true p218
          replace q218 := eq_true q218
          refine start_ (n := 31) (S := fun w' => w'.cell? ⟨ad206.block, ad206.off + 1, none⟩ = some (.string (rdOf ByteArray.empty t203 1)) ∧ w'.cell? ⟨ad206.block, ad206.off + 2, none⟩ = some (.string (rdOf ByteArray.empty t203 2)) ∧ w'.cell? ⟨ad206.block, ad206.off + 3, none⟩ = some (.string (rdOf ByteArray.empty t203 3)) ∧ w'.cell? ⟨ad206.block, ad206.off + 4, none⟩ = some (.string (rdOf ByteArray.empty t203 4)) ∧ w'.cell? ⟨ad206.block, ad206.off + 5, none⟩ = some (.string (rdOf ByteArray.empty t203 5)) ∧ w'.cell? ⟨ad206.block, ad206.off + 6, none⟩ = some (.string (rdOf ByteArray.empty t203 6)) ∧ w'.cell? ⟨ad206.block, ad206.off + 7, none⟩ = some (.string (rdOf ByteArray.empty t203 7))) (ds := []) #[false, false, false, false, false, false, false, false, false, false, false, false, false, false, false, false, false, false, false, false, false, false, false, false, false, false, false, false, false, false, false] (by kernel_rfl) rfl rfl ⟨hx206_0, hx208_0, hx210_0, hx212_0, hx214_0, hx216_0, hx218_0⟩ (fun hHeld => ?_); refine with_tabW spec_RecRead.tab6 spec_RecRead.bits6 (fun HT_ HW_ => ?_)
          generalize w22.drew = w24 at HO205 BK202 HB hx206_0 hx208_0 hx210_0 hx212_0 hx214_0 hx216_0 hx218_0 hHeld ⊢
          refine pure_ (i := 0) (N := some 17) (v := ?_) (a' := ?_) #[true, false, false, false, false, false, false, false, false, false, false, false, false, false, false, false, false, false, false, false, false, false, false, false, false, false, false, false, false, false, false] rfl rfl (any_of HT_.out (by kernel_rfl)) (fun _ _ _ h => h) (Or.inl ⟨by rfl, ?_⟩) ?_ ?_
          rotate_left
          ·intro w'
           go_simp
           with_reducible rfl
          rotate_left
          ·simp only [Act.put, List.setIfInBounds_toArray, List.set_cons_zero, List.set_cons_succ, i64_w, i32_w]
           rfl
          refine pure_ (i := 1) (N := some 18) (v := ?_) (a' := ?_) #[true, true, false, false, false, false, false, false, false, false, false, false, false, false, false, false, false, false, false, false, false, false, false, false, false, false, false, false, false, false, false] rfl rfl (any_of HT_.out (by kernel_rfl)) (fun _ _ _ h => h) (Or.inl ⟨by rfl, ?_⟩) ?_ ?_
          rotate_left
          ·intro w'
           go_simp
           with_reducible rfl
          rotate_left
          ·simp only [Act.put, List.setIfInBounds_toArray, List.set_cons_zero, List.set_cons_succ, i64_w, i32_w]
           rfl
          refine pure_ (i := 4) (N := some 21) (v := ?_) (a' := ?_) #[true, true, false, false, true, false, false, false, false, false, false, false, false, false, false, false, false, false, false, false, false, false, false, false, false, false, false, false, false, false, false] rfl rfl (any_of HT_.out (by kernel_rfl)) (fun _ _ _ h => h) (Or.inl ⟨by rfl, ?_⟩) ?_ ?_
          rotate_left
          ·intro w'
           go_simp
           with_reducible rfl
          rotate_left
          ·simp only [Act.put, List.setIfInBounds_toArray, List.set_cons_zero, List.set_cons_succ, i64_w, i32_w]
           rfl
          refine pure_ (i := 5) (N := some 22) (v := ?_) (a' := ?_) #[true, true, false, false, true, true, false, false, false, false, false, false, false, false, false, false, false, false, false, false, false, false, false, false, false, false, false, false, false, false, false] rfl rfl (any_of HT_.out (by kernel_rfl)) (fun _ _ _ h => h) (Or.inl ⟨by rfl, ?_⟩) ?_ ?_
          rotate_left
          ·intro w'
           go_simp
           with_reducible rfl
          rotate_left
          ·simp only [Act.put, List.setIfInBounds_toArray, List.set_cons_zero, List.set_cons_succ, i64_w, i32_w]
           rfl
          refine pure_ (i := 8) (N := some 25) (v := ?_) (a' := ?_) #[true, true, false, false, true, true, false, false, true, false, false, false, false, false, false, false, false, false, false, false, false, false, false, false, false, false, false, false, false, false, false] rfl rfl (any_of HT_.out (by kernel_rfl)) (fun _ _ _ h => h) (Or.inl ⟨by rfl, ?_⟩) ?_ ?_
          rotate_left
          ·intro w'
           go_simp
           with_reducible rfl
          rotate_left
          ·simp only [Act.put, List.setIfInBounds_toArray, List.set_cons_zero, List.set_cons_succ, i64_w, i32_w]
           rfl
          refine pure_ (i := 9) (N := some 26) (v := ?_) (a' := ?_) #[true, true, false, false, true, true, false, false, true, true, false, false, false, false, false, false, false, false, false, false, false, false, false, false, false, false, false, false, false, false, false] rfl rfl (any_of HT_.out (by kernel_rfl)) (fun _ _ _ h => h) (Or.inl ⟨by rfl, ?_⟩) ?_ ?_
          rotate_left
          ·intro w'
           go_simp
           with_reducible rfl
          rotate_left
          ·simp only [Act.put, List.setIfInBounds_toArray, List.set_cons_zero, List.set_cons_succ, i64_w, i32_w]
           rfl
          refine pure_ (i := 12) (N := some 29) (v := ?_) (a' := ?_) #[true, true, false, false, true, true, false, false, true, true, false, false, true, false, false, false, false, false, false, false, false, false, false, false, false, false, false, false, false, false, false] rfl rfl (any_of HT_.out (by kernel_rfl)) (fun _ _ _ h => h) (Or.inl ⟨by rfl, ?_⟩) ?_ ?_
          rotate_left
          ·intro w'
           go_simp
           with_reducible rfl
          rotate_left
          ·simp only [Act.put, List.setIfInBounds_toArray, List.set_cons_zero, List.set_cons_succ, i64_w, i32_w]
           rfl
          refine pure_ (i := 13) (N := some 30) (v := ?_) (a' := ?_) #[true, true, false, false, true, true, false, false, true, true, false, false, true, true, false, false, false, false, false, false, false, false, false, false, false, false, false, false, false, false, false] rfl rfl (any_of HT_.out (by kernel_rfl)) (fun _ _ _ h => h) (Or.inl ⟨by rfl, ?_⟩) ?_ ?_
          rotate_left
          ·intro w'
           go_simp
           with_reducible rfl
          rotate_left
          ·simp only [Act.put, List.setIfInBounds_toArray, List.set_cons_zero, List.set_cons_succ, i64_w, i32_w]
           rfl
          refine pure_ (i := 16) (N := some 33) (v := ?_) (a' := ?_) #[true, true, false, false, true, true, false, false, true, true, false, false, true, true, false, false, true, false, false, false, false, false, false, false, false, false, false, false, false, false, false] rfl rfl (any_of HT_.out (by kernel_rfl)) (fun _ _ _ h => h) (Or.inl ⟨by rfl, ?_⟩) ?_ ?_
          rotate_left
          ·intro w'
           go_simp
           with_reducible rfl
          rotate_left
          ·simp only [Act.put, List.setIfInBounds_toArray, List.set_cons_zero, List.set_cons_succ, i64_w, i32_w]
           rfl
          refine pure_ (i := 17) (N := some 34) (v := ?_) (a' := ?_) #[true, true, false, false, true, true, false, false, true, true, false, false, true, true, false, false, true, true, false, false, false, false, false, false, false, false, false, false, false, false, false] rfl rfl (any_of HT_.out (by kernel_rfl)) (fun _ _ _ h => h) (Or.inl ⟨by rfl, ?_⟩) ?_ ?_
          rotate_left
          ·intro w'
           go_simp
           with_reducible rfl
          rotate_left
          ·simp only [Act.put, List.setIfInBounds_toArray, List.set_cons_zero, List.set_cons_succ, i64_w, i32_w]
           rfl
          refine pure_ (i := 20) (N := some 37) (v := ?_) (a' := ?_) #[true, true, false, false, true, true, false, false, true, true, false, false, true, true, false, false, true, true, false, false, true, false, false, false, false, false, false, false, false, false, false] rfl rfl (any_of HT_.out (by kernel_rfl)) (fun _ _ _ h => h) (Or.inl ⟨by rfl, ?_⟩) ?_ ?_
          rotate_left
          ·intro w'
           go_simp
           with_reducible rfl
          rotate_left
          ·simp only [Act.put, List.setIfInBounds_toArray, List.set_cons_zero, List.set_cons_succ, i64_w, i32_w]
           rfl
          refine pure_ (i := 21) (N := some 38) (v := ?_) (a' := ?_) #[true, true, false, false, true, true, false, false, true, true, false, false, true, true, false, false, true, true, false, false, true, true, false, false, false, false, false, false, false, false, false] rfl rfl (any_of HT_.out (by kernel_rfl)) (fun _ _ _ h => h) (Or.inl ⟨by rfl, ?_⟩) ?_ ?_
          rotate_left
          ·intro w'
           go_simp
           with_reducible rfl
          rotate_left
          ·simp only [Act.put, List.setIfInBounds_toArray, List.set_cons_zero, List.set_cons_succ, i64_w, i32_w]
           rfl
          refine pure_ (i := 24) (N := some 41) (v := ?_) (a' := ?_) #[true, true, false, false, true, true, false, false, true, true, false, false, true, true, false, false, true, true, false, false, true, true, false, false, true, false, false, false, false, false, false] rfl rfl (any_of HT_.out (by kernel_rfl)) (fun _ _ _ h => h) (Or.inl ⟨by rfl, ?_⟩) ?_ ?_
          rotate_left
          ·intro w'
           go_simp
           with_reducible rfl
          rotate_left
          ·simp only [Act.put, List.setIfInBounds_toArray, List.set_cons_zero, List.set_cons_succ, i64_w, i32_w]
           rfl
          refine pure_ (i := 25) (N := some 42) (v := ?_) (a' := ?_) #[true, true, false, false, true, true, false, false, true, true, false, false, true, true, false, false, true, true, false, false, true, true, false, false, true, true, false, false, false, false, false] rfl rfl (any_of HT_.out (by kernel_rfl)) (fun _ _ _ h => h) (Or.inl ⟨by rfl, ?_⟩) ?_ ?_
          rotate_left
          ·intro w'
           go_simp
           with_reducible rfl
          rotate_left
          ·simp only [Act.put, List.setIfInBounds_toArray, List.set_cons_zero, List.set_cons_succ, i64_w, i32_w]
           rfl
          refine take_ (i := 2) (N := some 19) (v := ?_) (a' := ?_) #[true, true, true, false, true, true, false, false, true, true, false, false, true, true, false, false, true, true, false, false, true, true, false, false, true, true, false, false, false, false, false] rfl rfl (take_ofW HT_.out HW_.out (by kernel_rfl)) (fun _ _ _ h => h) (Or.inl ⟨by rfl, ?_⟩) hHeld ?_ ?_
          rotate_left
          ·rintro w' ⟨s0, s1, s2, s3, s4, s5, s6⟩
           go_simp
           with_reducible rfl
          rotate_left
          ·simp only [Act.put, List.setIfInBounds_toArray, List.set_cons_zero, List.set_cons_succ, i64_w, i32_w]
           rfl
          refine take_ (i := 6) (N := some 23) (v := ?_) (a' := ?_) #[true, true, true, false, true, true, true, false, true, true, false, false, true, true, false, false, true, true, false, false, true, true, false, false, true, true, false, false, false, false, false] rfl rfl (take_ofW HT_.out HW_.out (by kernel_rfl)) (fun _ _ _ h => h) (Or.inl ⟨by rfl, ?_⟩) hHeld ?_ ?_
          rotate_left
          ·rintro w' ⟨s0, s1, s2, s3, s4, s5, s6⟩
           go_simp
           with_reducible rfl
          rotate_left
          ·simp only [Act.put, List.setIfInBounds_toArray, List.set_cons_zero, List.set_cons_succ, i64_w, i32_w]
           rfl
          refine take_ (i := 10) (N := some 27) (v := ?_) (a' := ?_) #[true, true, true, false, true, true, true, false, true, true, true, false, true, true, false, false, true, true, false, false, true, true, false, false, true, true, false, false, false, false, false] rfl rfl (take_ofW HT_.out HW_.out (by kernel_rfl)) (fun _ _ _ h => h) (Or.inl ⟨by rfl, ?_⟩) hHeld ?_ ?_
          rotate_left
          ·rintro w' ⟨s0, s1, s2, s3, s4, s5, s6⟩
           go_simp
           with_reducible rfl
          rotate_left
          ·simp only [Act.put, List.setIfInBounds_toArray, List.set_cons_zero, List.set_cons_succ, i64_w, i32_w]
           rfl
          refine take_ (i := 14) (N := some 31) (v := ?_) (a' := ?_) #[true, true, true, false, true, true, true, false, true, true, true, false, true, true, true, false, true, true, false, false, true, true, false, false, true, true, false, false, false, false, false] rfl rfl (take_ofW HT_.out HW_.out (by kernel_rfl)) (fun _ _ _ h => h) (Or.inl ⟨by rfl, ?_⟩) hHeld ?_ ?_
          rotate_left
          ·rintro w' ⟨s0, s1, s2, s3, s4, s5, s6⟩
           go_simp
           with_reducible rfl
          rotate_left
          ·simp only [Act.put, List.setIfInBounds_toArray, List.set_cons_zero, List.set_cons_succ, i64_w, i32_w]
           rfl
          refine take_ (i := 18) (N := some 35) (v := ?_) (a' := ?_) #[true, true, true, false, true, true, true, false, true, true, true, false, true, true, true, false, true, true, true, false, true, true, false, false, true, true, false, false, false, false, false] rfl rfl (take_ofW HT_.out HW_.out (by kernel_rfl)) (fun _ _ _ h => h) (Or.inl ⟨by rfl, ?_⟩) hHeld ?_ ?_
          rotate_left
          ·rintro w' ⟨s0, s1, s2, s3, s4, s5, s6⟩
           go_simp
           with_reducible rfl
          rotate_left
          ·simp only [Act.put, List.setIfInBounds_toArray, List.set_cons_zero, List.set_cons_succ, i64_w, i32_w]
           rfl
          refine take_ (i := 22) (N := some 39) (v := ?_) (a' := ?_) #[true, true, true, false, true, true, true, false, true, true, true, false, true, true, true, false, true, true, true, false, true, true, true, false, true, true, false, false, false, false, false] rfl rfl (take_ofW HT_.out HW_.out (by kernel_rfl)) (fun _ _ _ h => h) (Or.inl ⟨by rfl, ?_⟩) hHeld ?_ ?_
          rotate_left
          ·rintro w' ⟨s0, s1, s2, s3, s4, s5, s6⟩
           go_simp
           with_reducible rfl
          rotate_left
          ·simp only [Act.put, List.setIfInBounds_toArray, List.set_cons_zero, List.set_cons_succ, i64_w, i32_w]
           rfl
          refine take_ (i := 26) (N := some 43) (v := ?_) (a' := ?_) #[true, true, true, false, true, true, true, false, true, true, true, false, true, true, true, false, true, true, true, false, true, true, true, false, true, true, true, false, false, false, false] rfl rfl (take_ofW HT_.out HW_.out (by kernel_rfl)) (fun _ _ _ h => h) (Or.inl ⟨by rfl, ?_⟩) hHeld ?_ ?_
          rotate_left
          ·rintro w' ⟨s0, s1, s2, s3, s4, s5, s6⟩
           go_simp
           with_reducible rfl
          rotate_left
          ·simp only [Act.put, List.setIfInBounds_toArray, List.set_cons_zero, List.set_cons_succ, i64_w, i32_w]
           rfl
          refine join_ (σ := Nat) 1 #[true, true, true, true, true, true, true, true, true, true, true, true, true, true, true, true, true, true, true, true, true, true, true, true, true, true, true, true, true, true, false] (fun s_ => [(20, .int .i64 t207), (24, .int .i64 t209), (28, .int .i64 t211), (32, .int .i64 t213), (36, .int .i64 t215), (40, .int .i64 t217), (44, .int .i64 t219), (5, .pointer (some ⟨s_, 0, none⟩)), (45, .agg #[.int .i64 0, .int .i64 t207, .int .i64 t209, .int .i64 t211, .int .i64 t213, .int .i64 t215, .int .i64 t217, .int .i64 t219])]) (fun s_ w' => (w'.cell? ⟨ad206.block, ad206.off + 1, none⟩ = some (.string (rdOf ByteArray.empty t203 1)) ∧ w'.cell? ⟨ad206.block, ad206.off + 2, none⟩ = some (.string (rdOf ByteArray.empty t203 2)) ∧ w'.cell? ⟨ad206.block, ad206.off + 3, none⟩ = some (.string (rdOf ByteArray.empty t203 3)) ∧ w'.cell? ⟨ad206.block, ad206.off + 4, none⟩ = some (.string (rdOf ByteArray.empty t203 4)) ∧ w'.cell? ⟨ad206.block, ad206.off + 5, none⟩ = some (.string (rdOf ByteArray.empty t203 5)) ∧ w'.cell? ⟨ad206.block, ad206.off + 6, none⟩ = some (.string (rdOf ByteArray.empty t203 6)) ∧ w'.cell? ⟨ad206.block, ad206.off + 7, none⟩ = some (.string (rdOf ByteArray.empty t203 7))) ∧ (Kd.R Kd.string 9 w' w.heap.size (fun _ => True) (.slice (some ad206) t203.length co23) t203) ∧ (w'.heap[gb202]? = some (.cells #[.int .i64 0, .int .i64 0, .int .i64 0, .int .i64 0, .int .i64 0, .int .i64 0, .int .i64 0, .int .i64 0] 37 (0, 0))) ∧ (w'.heap[s_]? = some (.cells #[.int .i64 0, .int .i64 0, .int .i64 0, .int .i64 0, .int .i64 0, .int .i64 0, .int .i64 0, .int .i64 0] 37 (0, 0))) ∧ (w.heap.size ≤ s_) ∧ (w.heap.size ≤ s_) ∧ (gb202 ≠ s_) ∧ (s_ ≠ gb202) ∧ (Below w.heap.size w w')) ?_ ?_
          rotate_left
          ·intro hJ3_7_11_15_19_23_27_29
           refine join_ (σ := Unit) 2 #[true, true, true, true, true, true, true, true, true, true, true, true, true, true, true, true, true, true, true, true, true, true, true, true, true, true, true, true, true, false, false] (fun s_ => [(20, .int .i64 t207), (24, .int .i64 t209), (28, .int .i64 t211), (32, .int .i64 t213), (36, .int .i64 t215), (40, .int .i64 t217), (44, .int .i64 t219), (45, .agg #[.int .i64 0, .int .i64 t207, .int .i64 t209, .int .i64 t211, .int .i64 t213, .int .i64 t215, .int .i64 t217, .int .i64 t219])]) (fun s_ w' => (w'.cell? ⟨ad206.block, ad206.off + 1, none⟩ = some (.string (rdOf ByteArray.empty t203 1)) ∧ w'.cell? ⟨ad206.block, ad206.off + 2, none⟩ = some (.string (rdOf ByteArray.empty t203 2)) ∧ w'.cell? ⟨ad206.block, ad206.off + 3, none⟩ = some (.string (rdOf ByteArray.empty t203 3)) ∧ w'.cell? ⟨ad206.block, ad206.off + 4, none⟩ = some (.string (rdOf ByteArray.empty t203 4)) ∧ w'.cell? ⟨ad206.block, ad206.off + 5, none⟩ = some (.string (rdOf ByteArray.empty t203 5)) ∧ w'.cell? ⟨ad206.block, ad206.off + 6, none⟩ = some (.string (rdOf ByteArray.empty t203 6)) ∧ w'.cell? ⟨ad206.block, ad206.off + 7, none⟩ = some (.string (rdOf ByteArray.empty t203 7))) ∧ (Kd.R Kd.string 9 w' w.heap.size (fun _ => True) (.slice (some ad206) t203.length co23) t203) ∧ (w'.heap[gb202]? = some (.cells #[.int .i64 0, .int .i64 0, .int .i64 0, .int .i64 0, .int .i64 0, .int .i64 0, .int .i64 0, .int .i64 0] 37 (0, 0))) ∧ (Below w.heap.size w w')) ?_ ?_
           rotate_left
           ·intro hJ3_7_11_15_19_23_27
            refine join_ (σ := Nat) 3 #[true, true, true, true, true, true, true, true, true, true, true, true, true, true, true, true, true, true, true, true, true, true, true, true, true, true, true, false, false, true, false] (fun s_ => [(20, .int .i64 t207), (24, .int .i64 t209), (28, .int .i64 t211), (32, .int .i64 t213), (36, .int .i64 t215), (40, .int .i64 t217), (5, .pointer (some ⟨s_, 0, none⟩))]) (fun s_ w' => (w'.cell? ⟨ad206.block, ad206.off + 1, none⟩ = some (.string (rdOf ByteArray.empty t203 1)) ∧ w'.cell? ⟨ad206.block, ad206.off + 2, none⟩ = some (.string (rdOf ByteArray.empty t203 2)) ∧ w'.cell? ⟨ad206.block, ad206.off + 3, none⟩ = some (.string (rdOf ByteArray.empty t203 3)) ∧ w'.cell? ⟨ad206.block, ad206.off + 4, none⟩ = some (.string (rdOf ByteArray.empty t203 4)) ∧ w'.cell? ⟨ad206.block, ad206.off + 5, none⟩ = some (.string (rdOf ByteArray.empty t203 5)) ∧ w'.cell? ⟨ad206.block, ad206.off + 6, none⟩ = some (.string (rdOf ByteArray.empty t203 6)) ∧ w'.cell? ⟨ad206.block, ad206.off + 7, none⟩ = some (.string (rdOf ByteArray.empty t203 7))) ∧ (Kd.R Kd.string 9 w' w.heap.size (fun _ => True) (.slice (some ad206) t203.length co23) t203) ∧ (w'.heap[gb202]? = some (.cells #[.int .i64 0, .int .i64 0, .int .i64 0, .int .i64 0, .int .i64 0, .int .i64 0, .int .i64 0, .int .i64 0] 37 (0, 0))) ∧ (w'.heap[s_]? = some (.cells #[.int .i64 0, .int .i64 0, .int .i64 0, .int .i64 0, .int .i64 0, .int .i64 0, .int .i64 0, .int .i64 0] 37 (0, 0))) ∧ (w.heap.size ≤ s_) ∧ (w.heap.size ≤ s_) ∧ (gb202 ≠ s_) ∧ (s_ ≠ gb202) ∧ (Below w.heap.size w w')) ?_ ?_
            rotate_left
            ·intro hJ3_7_11_15_19_23_29
             refine join_ (σ := Unit) 4 #[true, true, true, true, true, true, true, true, true, true, true, true, true, true, true, true, true, true, true, true, true, true, true, true, true, true, true, false, false, false, false] (fun s_ => [(20, .int .i64 t207), (24, .int .i64 t209), (28, .int .i64 t211), (32, .int .i64 t213), (36, .int .i64 t215), (40, .int .i64 t217)]) (fun s_ w' => (w'.cell? ⟨ad206.block, ad206.off + 1, none⟩ = some (.string (rdOf ByteArray.empty t203 1)) ∧ w'.cell? ⟨ad206.block, ad206.off + 2, none⟩ = some (.string (rdOf ByteArray.empty t203 2)) ∧ w'.cell? ⟨ad206.block, ad206.off + 3, none⟩ = some (.string (rdOf ByteArray.empty t203 3)) ∧ w'.cell? ⟨ad206.block, ad206.off + 4, none⟩ = some (.string (rdOf ByteArray.empty t203 4)) ∧ w'.cell? ⟨ad206.block, ad206.off + 5, none⟩ = some (.string (rdOf ByteArray.empty t203 5)) ∧ w'.cell? ⟨ad206.block, ad206.off + 6, none⟩ = some (.string (rdOf ByteArray.empty t203 6)) ∧ w'.cell? ⟨ad206.block, ad206.off + 7, none⟩ = some (.string (rdOf ByteArray.empty t203 7))) ∧ (Kd.R Kd.string 9 w' w.heap.size (fun _ => True) (.slice (some ad206) t203.length co23) t203) ∧ (w'.heap[gb202]? = some (.cells #[.int .i64 0, .int .i64 0, .int .i64 0, .int .i64 0, .int .i64 0, .int .i64 0, .int .i64 0, .int .i64 0] 37 (0, 0))) ∧ (Below w.heap.size w w')) ?_ ?_
             rotate_left
             ·intro hJ3_7_11_15_19_23
              refine join_ (σ := Nat) 4 #[true, true, true, true, true, true, true, true, true, true, true, true, true, true, true, true, true, true, true, true, true, true, true, false, true, true, true, false, false, true, false] (fun s_ => [(20, .int .i64 t207), (24, .int .i64 t209), (28, .int .i64 t211), (32, .int .i64 t213), (36, .int .i64 t215), (5, .pointer (some ⟨s_, 0, none⟩))]) (fun s_ w' => (w'.cell? ⟨ad206.block, ad206.off + 1, none⟩ = some (.string (rdOf ByteArray.empty t203 1)) ∧ w'.cell? ⟨ad206.block, ad206.off + 2, none⟩ = some (.string (rdOf ByteArray.empty t203 2)) ∧ w'.cell? ⟨ad206.block, ad206.off + 3, none⟩ = some (.string (rdOf ByteArray.empty t203 3)) ∧ w'.cell? ⟨ad206.block, ad206.off + 4, none⟩ = some (.string (rdOf ByteArray.empty t203 4)) ∧ w'.cell? ⟨ad206.block, ad206.off + 5, none⟩ = some (.string (rdOf ByteArray.empty t203 5)) ∧ w'.cell? ⟨ad206.block, ad206.off + 6, none⟩ = some (.string (rdOf ByteArray.empty t203 6)) ∧ w'.cell? ⟨ad206.block, ad206.off + 7, none⟩ = some (.string (rdOf ByteArray.empty t203 7))) ∧ (Kd.R Kd.string 9 w' w.heap.size (fun _ => True) (.slice (some ad206) t203.length co23) t203) ∧ (w'.heap[gb202]? = some (.cells #[.int .i64 0, .int .i64 0, .int .i64 0, .int .i64 0, .int .i64 0, .int .i64 0, .int .i64 0, .int .i64 0] 37 (0, 0))) ∧ (w'.heap[s_]? = some (.cells #[.int .i64 0, .int .i64 0, .int .i64 0, .int .i64 0, .int .i64 0, .int .i64 0, .int .i64 0, .int .i64 0] 37 (0, 0))) ∧ (w.heap.size ≤ s_) ∧ (w.heap.size ≤ s_) ∧ (gb202 ≠ s_) ∧ (s_ ≠ gb202) ∧ (Below w.heap.size w w')) ?_ ?_
              rotate_left
              ·intro hJ3_7_11_15_19_29
               refine join_ (σ := Unit) 5 #[true, true, true, true, true, true, true, true, true, true, true, true, true, true, true, true, true, true, true, true, true, true, true, false, true, true, true, false, false, false, false] (fun s_ => [(20, .int .i64 t207), (24, .int .i64 t209), (28, .int .i64 t211), (32, .int .i64 t213), (36, .int .i64 t215)]) (fun s_ w' => (w'.cell? ⟨ad206.block, ad206.off + 1, none⟩ = some (.string (rdOf ByteArray.empty t203 1)) ∧ w'.cell? ⟨ad206.block, ad206.off + 2, none⟩ = some (.string (rdOf ByteArray.empty t203 2)) ∧ w'.cell? ⟨ad206.block, ad206.off + 3, none⟩ = some (.string (rdOf ByteArray.empty t203 3)) ∧ w'.cell? ⟨ad206.block, ad206.off + 4, none⟩ = some (.string (rdOf ByteArray.empty t203 4)) ∧ w'.cell? ⟨ad206.block, ad206.off + 5, none⟩ = some (.string (rdOf ByteArray.empty t203 5)) ∧ w'.cell? ⟨ad206.block, ad206.off + 6, none⟩ = some (.string (rdOf ByteArray.empty t203 6)) ∧ w'.cell? ⟨ad206.block, ad206.off + 7, none⟩ = some (.string (rdOf ByteArray.empty t203 7))) ∧ (Kd.R Kd.string 9 w' w.heap.size (fun _ => True) (.slice (some ad206) t203.length co23) t203) ∧ (w'.heap[gb202]? = some (.cells #[.int .i64 0, .int .i64 0, .int .i64 0, .int .i64 0, .int .i64 0, .int .i64 0, .int .i64 0, .int .i64 0] 37 (0, 0))) ∧ (Below w.heap.size w w')) ?_ ?_
               rotate_left
               ·intro hJ3_7_11_15_19
                refine join_ (σ := Nat) 5 #[true, true, true, true, true, true, true, true, true, true, true, true, true, true, true, true, true, true, true, false, true, true, true, false, true, true, true, false, false, true, false] (fun s_ => [(20, .int .i64 t207), (24, .int .i64 t209), (28, .int .i64 t211), (32, .int .i64 t213), (5, .pointer (some ⟨s_, 0, none⟩))]) (fun s_ w' => (w'.cell? ⟨ad206.block, ad206.off + 1, none⟩ = some (.string (rdOf ByteArray.empty t203 1)) ∧ w'.cell? ⟨ad206.block, ad206.off + 2, none⟩ = some (.string (rdOf ByteArray.empty t203 2)) ∧ w'.cell? ⟨ad206.block, ad206.off + 3, none⟩ = some (.string (rdOf ByteArray.empty t203 3)) ∧ w'.cell? ⟨ad206.block, ad206.off + 4, none⟩ = some (.string (rdOf ByteArray.empty t203 4)) ∧ w'.cell? ⟨ad206.block, ad206.off + 5, none⟩ = some (.string (rdOf ByteArray.empty t203 5)) ∧ w'.cell? ⟨ad206.block, ad206.off + 6, none⟩ = some (.string (rdOf ByteArray.empty t203 6)) ∧ w'.cell? ⟨ad206.block, ad206.off + 7, none⟩ = some (.string (rdOf ByteArray.empty t203 7))) ∧ (Kd.R Kd.string 9 w' w.heap.size (fun _ => True) (.slice (some ad206) t203.length co23) t203) ∧ (w'.heap[gb202]? = some (.cells #[.int .i64 0, .int .i64 0, .int .i64 0, .int .i64 0, .int .i64 0, .int .i64 0, .int .i64 0, .int .i64 0] 37 (0, 0))) ∧ (w'.heap[s_]? = some (.cells #[.int .i64 0, .int .i64 0, .int .i64 0, .int .i64 0, .int .i64 0, .int .i64 0, .int .i64 0, .int .i64 0] 37 (0, 0))) ∧ (w.heap.size ≤ s_) ∧ (w.heap.size ≤ s_) ∧ (gb202 ≠ s_) ∧ (s_ ≠ gb202) ∧ (Below w.heap.size w w')) ?_ ?_
                rotate_left
                ·intro hJ3_7_11_15_29
                 refine join_ (σ := Unit) 6 #[true, true, true, true, true, true, true, true, true, true, true, true, true, true, true, true, true, true, true, false, true, true, true, false, true, true, true, false, false, false, false] (fun s_ => [(20, .int .i64 t207), (24, .int .i64 t209), (28, .int .i64 t211), (32, .int .i64 t213)]) (fun s_ w' => (w'.cell? ⟨ad206.block, ad206.off + 1, none⟩ = some (.string (rdOf ByteArray.empty t203 1)) ∧ w'.cell? ⟨ad206.block, ad206.off + 2, none⟩ = some (.string (rdOf ByteArray.empty t203 2)) ∧ w'.cell? ⟨ad206.block, ad206.off + 3, none⟩ = some (.string (rdOf ByteArray.empty t203 3)) ∧ w'.cell? ⟨ad206.block, ad206.off + 4, none⟩ = some (.string (rdOf ByteArray.empty t203 4)) ∧ w'.cell? ⟨ad206.block, ad206.off + 5, none⟩ = some (.string (rdOf ByteArray.empty t203 5)) ∧ w'.cell? ⟨ad206.block, ad206.off + 6, none⟩ = some (.string (rdOf ByteArray.empty t203 6)) ∧ w'.cell? ⟨ad206.block, ad206.off + 7, none⟩ = some (.string (rdOf ByteArray.empty t203 7))) ∧ (Kd.R Kd.string 9 w' w.heap.size (fun _ => True) (.slice (some ad206) t203.length co23) t203) ∧ (w'.heap[gb202]? = some (.cells #[.int .i64 0, .int .i64 0, .int .i64 0, .int .i64 0, .int .i64 0, .int .i64 0, .int .i64 0, .int .i64 0] 37 (0, 0))) ∧ (Below w.heap.size w w')) ?_ ?_
                 rotate_left
                 ·intro hJ3_7_11_15
                  refine join_ (σ := Nat) 6 #[true, true, true, true, true, true, true, true, true, true, true, true, true, true, true, false, true, true, true, false, true, true, true, false, true, true, true, false, false, true, false] (fun s_ => [(20, .int .i64 t207), (24, .int .i64 t209), (28, .int .i64 t211), (5, .pointer (some ⟨s_, 0, none⟩))]) (fun s_ w' => (w'.cell? ⟨ad206.block, ad206.off + 1, none⟩ = some (.string (rdOf ByteArray.empty t203 1)) ∧ w'.cell? ⟨ad206.block, ad206.off + 2, none⟩ = some (.string (rdOf ByteArray.empty t203 2)) ∧ w'.cell? ⟨ad206.block, ad206.off + 3, none⟩ = some (.string (rdOf ByteArray.empty t203 3)) ∧ w'.cell? ⟨ad206.block, ad206.off + 4, none⟩ = some (.string (rdOf ByteArray.empty t203 4)) ∧ w'.cell? ⟨ad206.block, ad206.off + 5, none⟩ = some (.string (rdOf ByteArray.empty t203 5)) ∧ w'.cell? ⟨ad206.block, ad206.off + 6, none⟩ = some (.string (rdOf ByteArray.empty t203 6)) ∧ w'.cell? ⟨ad206.block, ad206.off + 7, none⟩ = some (.string (rdOf ByteArray.empty t203 7))) ∧ (Kd.R Kd.string 9 w' w.heap.size (fun _ => True) (.slice (some ad206) t203.length co23) t203) ∧ (w'.heap[gb202]? = some (.cells #[.int .i64 0, .int .i64 0, .int .i64 0, .int .i64 0, .int .i64 0, .int .i64 0, .int .i64 0, .int .i64 0] 37 (0, 0))) ∧ (w'.heap[s_]? = some (.cells #[.int .i64 0, .int .i64 0, .int .i64 0, .int .i64 0, .int .i64 0, .int .i64 0, .int .i64 0, .int .i64 0] 37 (0, 0))) ∧ (w.heap.size ≤ s_) ∧ (w.heap.size ≤ s_) ∧ (gb202 ≠ s_) ∧ (s_ ≠ gb202) ∧ (Below w.heap.size w w')) ?_ ?_
                  rotate_left
                  ·intro hJ3_7_11_29
                   refine join_ (σ := Unit) 7 #[true, true, true, true, true, true, true, true, true, true, true, true, true, true, true, false, true, true, true, false, true, true, true, false, true, true, true, false, false, false, false] (fun s_ => [(20, .int .i64 t207), (24, .int .i64 t209), (28, .int .i64 t211)]) (fun s_ w' => (w'.cell? ⟨ad206.block, ad206.off + 1, none⟩ = some (.string (rdOf ByteArray.empty t203 1)) ∧ w'.cell? ⟨ad206.block, ad206.off + 2, none⟩ = some (.string (rdOf ByteArray.empty t203 2)) ∧ w'.cell? ⟨ad206.block, ad206.off + 3, none⟩ = some (.string (rdOf ByteArray.empty t203 3)) ∧ w'.cell? ⟨ad206.block, ad206.off + 4, none⟩ = some (.string (rdOf ByteArray.empty t203 4)) ∧ w'.cell? ⟨ad206.block, ad206.off + 5, none⟩ = some (.string (rdOf ByteArray.empty t203 5)) ∧ w'.cell? ⟨ad206.block, ad206.off + 6, none⟩ = some (.string (rdOf ByteArray.empty t203 6)) ∧ w'.cell? ⟨ad206.block, ad206.off + 7, none⟩ = some (.string (rdOf ByteArray.empty t203 7))) ∧ (Kd.R Kd.string 9 w' w.heap.size (fun _ => True) (.slice (some ad206) t203.length co23) t203) ∧ (w'.heap[gb202]? = some (.cells #[.int .i64 0, .int .i64 0, .int .i64 0, .int .i64 0, .int .i64 0, .int .i64 0, .int .i64 0, .int .i64 0] 37 (0, 0))) ∧ (Below w.heap.size w w')) ?_ ?_
                   rotate_left
                   ·intro hJ3_7_11
                    refine join_ (σ := Nat) 7 #[true, true, true, true, true, true, true, true, true, true, true, false, true, true, true, false, true, true, true, false, true, true, true, false, true, true, true, false, false, true, false] (fun s_ => [(20, .int .i64 t207), (24, .int .i64 t209), (5, .pointer (some ⟨s_, 0, none⟩))]) (fun s_ w' => (w'.cell? ⟨ad206.block, ad206.off + 1, none⟩ = some (.string (rdOf ByteArray.empty t203 1)) ∧ w'.cell? ⟨ad206.block, ad206.off + 2, none⟩ = some (.string (rdOf ByteArray.empty t203 2)) ∧ w'.cell? ⟨ad206.block, ad206.off + 3, none⟩ = some (.string (rdOf ByteArray.empty t203 3)) ∧ w'.cell? ⟨ad206.block, ad206.off + 4, none⟩ = some (.string (rdOf ByteArray.empty t203 4)) ∧ w'.cell? ⟨ad206.block, ad206.off + 5, none⟩ = some (.string (rdOf ByteArray.empty t203 5)) ∧ w'.cell? ⟨ad206.block, ad206.off + 6, none⟩ = some (.string (rdOf ByteArray.empty t203 6)) ∧ w'.cell? ⟨ad206.block, ad206.off + 7, none⟩ = some (.string (rdOf ByteArray.empty t203 7))) ∧ (Kd.R Kd.string 9 w' w.heap.size (fun _ => True) (.slice (some ad206) t203.length co23) t203) ∧ (w'.heap[gb202]? = some (.cells #[.int .i64 0, .int .i64 0, .int .i64 0, .int .i64 0, .int .i64 0, .int .i64 0, .int .i64 0, .int .i64 0] 37 (0, 0))) ∧ (w'.heap[s_]? = some (.cells #[.int .i64 0, .int .i64 0, .int .i64 0, .int .i64 0, .int .i64 0, .int .i64 0, .int .i64 0, .int .i64 0] 37 (0, 0))) ∧ (w.heap.size ≤ s_) ∧ (w.heap.size ≤ s_) ∧ (gb202 ≠ s_) ∧ (s_ ≠ gb202) ∧ (Below w.heap.size w w')) ?_ ?_
                    rotate_left
                    ·intro hJ3_7_29
                     refine join_ (σ := Unit) 8 #[true, true, true, true, true, true, true, true, true, true, true, false, true, true, true, false, true, true, true, false, true, true, true, false, true, true, true, false, false, false, false] (fun s_ => [(20, .int .i64 t207), (24, .int .i64 t209)]) (fun s_ w' => (w'.cell? ⟨ad206.block, ad206.off + 1, none⟩ = some (.string (rdOf ByteArray.empty t203 1)) ∧ w'.cell? ⟨ad206.block, ad206.off + 2, none⟩ = some (.string (rdOf ByteArray.empty t203 2)) ∧ w'.cell? ⟨ad206.block, ad206.off + 3, none⟩ = some (.string (rdOf ByteArray.empty t203 3)) ∧ w'.cell? ⟨ad206.block, ad206.off + 4, none⟩ = some (.string (rdOf ByteArray.empty t203 4)) ∧ w'.cell? ⟨ad206.block, ad206.off + 5, none⟩ = some (.string (rdOf ByteArray.empty t203 5)) ∧ w'.cell? ⟨ad206.block, ad206.off + 6, none⟩ = some (.string (rdOf ByteArray.empty t203 6)) ∧ w'.cell? ⟨ad206.block, ad206.off + 7, none⟩ = some (.string (rdOf ByteArray.empty t203 7))) ∧ (Kd.R Kd.string 9 w' w.heap.size (fun _ => True) (.slice (some ad206) t203.length co23) t203) ∧ (w'.heap[gb202]? = some (.cells #[.int .i64 0, .int .i64 0, .int .i64 0, .int .i64 0, .int .i64 0, .int .i64 0, .int .i64 0, .int .i64 0] 37 (0, 0))) ∧ (Below w.heap.size w w')) ?_ ?_
                     rotate_left
                     ·intro hJ3_7
                      refine join_ (σ := Nat) 8 #[true, true, true, true, true, true, true, false, true, true, true, false, true, true, true, false, true, true, true, false, true, true, true, false, true, true, true, false, false, true, false] (fun s_ => [(20, .int .i64 t207), (5, .pointer (some ⟨s_, 0, none⟩))]) (fun s_ w' => (w'.cell? ⟨ad206.block, ad206.off + 1, none⟩ = some (.string (rdOf ByteArray.empty t203 1)) ∧ w'.cell? ⟨ad206.block, ad206.off + 2, none⟩ = some (.string (rdOf ByteArray.empty t203 2)) ∧ w'.cell? ⟨ad206.block, ad206.off + 3, none⟩ = some (.string (rdOf ByteArray.empty t203 3)) ∧ w'.cell? ⟨ad206.block, ad206.off + 4, none⟩ = some (.string (rdOf ByteArray.empty t203 4)) ∧ w'.cell? ⟨ad206.block, ad206.off + 5, none⟩ = some (.string (rdOf ByteArray.empty t203 5)) ∧ w'.cell? ⟨ad206.block, ad206.off + 6, none⟩ = some (.string (rdOf ByteArray.empty t203 6)) ∧ w'.cell? ⟨ad206.block, ad206.off + 7, none⟩ = some (.string (rdOf ByteArray.empty t203 7))) ∧ (Kd.R Kd.string 9 w' w.heap.size (fun _ => True) (.slice (some ad206) t203.length co23) t203) ∧ (w'.heap[gb202]? = some (.cells #[.int .i64 0, .int .i64 0, .int .i64 0, .int .i64 0, .int .i64 0, .int .i64 0, .int .i64 0, .int .i64 0] 37 (0, 0))) ∧ (w'.heap[s_]? = some (.cells #[.int .i64 0, .int .i64 0, .int .i64 0, .int .i64 0, .int .i64 0, .int .i64 0, .int .i64 0, .int .i64 0] 37 (0, 0))) ∧ (w.heap.size ≤ s_) ∧ (w.heap.size ≤ s_) ∧ (gb202 ≠ s_) ∧ (s_ ≠ gb202) ∧ (Below w.heap.size w w')) ?_ ?_
                      rotate_left
                      ·intro hJ3_29
                       refine join_ (σ := Unit) 9 #[true, true, true, true, true, true, true, false, true, true, true, false, true, true, true, false, true, true, true, false, true, true, true, false, true, true, true, false, false, false, false] (fun s_ => [(20, .int .i64 t207)]) (fun s_ w' => (w'.cell? ⟨ad206.block, ad206.off + 1, none⟩ = some (.string (rdOf ByteArray.empty t203 1)) ∧ w'.cell? ⟨ad206.block, ad206.off + 2, none⟩ = some (.string (rdOf ByteArray.empty t203 2)) ∧ w'.cell? ⟨ad206.block, ad206.off + 3, none⟩ = some (.string (rdOf ByteArray.empty t203 3)) ∧ w'.cell? ⟨ad206.block, ad206.off + 4, none⟩ = some (.string (rdOf ByteArray.empty t203 4)) ∧ w'.cell? ⟨ad206.block, ad206.off + 5, none⟩ = some (.string (rdOf ByteArray.empty t203 5)) ∧ w'.cell? ⟨ad206.block, ad206.off + 6, none⟩ = some (.string (rdOf ByteArray.empty t203 6)) ∧ w'.cell? ⟨ad206.block, ad206.off + 7, none⟩ = some (.string (rdOf ByteArray.empty t203 7))) ∧ (Kd.R Kd.string 9 w' w.heap.size (fun _ => True) (.slice (some ad206) t203.length co23) t203) ∧ (w'.heap[gb202]? = some (.cells #[.int .i64 0, .int .i64 0, .int .i64 0, .int .i64 0, .int .i64 0, .int .i64 0, .int .i64 0, .int .i64 0] 37 (0, 0))) ∧ (Below w.heap.size w w')) ?_ ?_
                       rotate_left
                       ·intro hJ3
                        refine join_ (σ := Nat) 9 #[true, true, true, false, true, true, true, false, true, true, true, false, true, true, true, false, true, true, true, false, true, true, true, false, true, true, true, false, false, true, false] (fun s_ => [(5, .pointer (some ⟨s_, 0, none⟩))]) (fun s_ w' => (w'.cell? ⟨ad206.block, ad206.off + 1, none⟩ = some (.string (rdOf ByteArray.empty t203 1)) ∧ w'.cell? ⟨ad206.block, ad206.off + 2, none⟩ = some (.string (rdOf ByteArray.empty t203 2)) ∧ w'.cell? ⟨ad206.block, ad206.off + 3, none⟩ = some (.string (rdOf ByteArray.empty t203 3)) ∧ w'.cell? ⟨ad206.block, ad206.off + 4, none⟩ = some (.string (rdOf ByteArray.empty t203 4)) ∧ w'.cell? ⟨ad206.block, ad206.off + 5, none⟩ = some (.string (rdOf ByteArray.empty t203 5)) ∧ w'.cell? ⟨ad206.block, ad206.off + 6, none⟩ = some (.string (rdOf ByteArray.empty t203 6)) ∧ w'.cell? ⟨ad206.block, ad206.off + 7, none⟩ = some (.string (rdOf ByteArray.empty t203 7))) ∧ (Kd.R Kd.string 9 w' w.heap.size (fun _ => True) (.slice (some ad206) t203.length co23) t203) ∧ (w'.heap[gb202]? = some (.cells #[.int .i64 0, .int .i64 0, .int .i64 0, .int .i64 0, .int .i64 0, .int .i64 0, .int .i64 0, .int .i64 0] 37 (0, 0))) ∧ (w'.heap[s_]? = some (.cells #[.int .i64 0, .int .i64 0, .int .i64 0, .int .i64 0, .int .i64 0, .int .i64 0, .int .i64 0, .int .i64 0] 37 (0, 0))) ∧ (w.heap.size ≤ s_) ∧ (w.heap.size ≤ s_) ∧ (gb202 ≠ s_) ∧ (s_ ≠ gb202) ∧ (Below w.heap.size w w')) ?_ ?_
                        rotate_left
                        ·intro hJ29
                         refine two_ (i := 3) (j := 29) (Ni := some 20) (Nj := some 5) #[true, true, true, true, true, true, true, false, true, true, true, false, true, true, true, false, true, true, true, false, true, true, true, false, true, true, true, false, false, false, false] #[true, true, true, false, true, true, true, false, true, true, true, false, true, true, true, false, true, true, true, false, true, true, true, false, true, true, true, false, false, true, false] rfl rfl rfl rfl (two_of HT_.out (by kernel_rfl)) (by decide) (by decide) (fun K hK => ?_) (fun K hK => ?_)
                         ·skip
                          refine goes_ Tryd.func55 (by kernel_rfl) rfl #[.string (rdOf ByteArray.empty t203 1)] (by rfl) rfl rfl (by (try simp only [List.map_toArray, List.map_cons, List.map_nil]); first | done | rfl | (simp only [List.length_drop, List.length_take]; rfl)) ?_
                          with_reducible refine (spec_l2Num.calls k (rdOf ByteArray.empty t203 1) t207 _ A8.out).mono ?_
                          rintro e w' ⟨rfl, ⟨nd, rfl⟩⟩
                          refine ⟨_, rfl, ?_⟩
                          refine hK.out _ _ ⟨hHeld.1, hHeld.2.1, hHeld.2.2.1, hHeld.2.2.2.1, hHeld.2.2.2.2.1, hHeld.2.2.2.2.2.1, hHeld.2.2.2.2.2.2⟩ (fun hHeld => ?_)
                          clear hK K
                          refine norm_ (a' := ?_) ?_ ?_
                          rotate_left
                          ·show Act.put _ (some 20) _ = _
                           simp only [Act.put, List.setIfInBounds_toArray, List.set_cons_zero, List.set_cons_succ, i64_w, i32_w]
                           rfl
                          exact norm_ (by first | (simp only [putAll, Act.put, List.setIfInBounds_toArray, List.set_cons_zero, List.set_cons_succ]; done) | (simp only [putAll, Act.put, List.setIfInBounds_toArray, List.set_cons_zero, List.set_cons_succ]; rfl)) (hJ3 () _ ⟨hHeld, (by (with_reducible repeat (first | apply Kd.R_alloc | apply Kd.R_drewN | apply Kd.R_drew)); exact HO205.out), (by (with_reducible repeat (first | apply bn | apply bd | apply ba)); exact BK202.out), (by repeat (first | (with_reducible first | exact HB.out | apply wa | apply wn | apply wd | refine ws ‹_› ?_) | exact HB.out))⟩)
                         ·skip
                          refine box_step ?hg (N := 5) ?hd (cs := #[.int .i64 0, .int .i64 0, .int .i64 0, .int .i64 0, .int .i64 0, .int .i64 0, .int .i64 0, .int .i64 0]) (t := 37) ?hr ?_; (case hd => rfl); (case hg => rfl); (case hr => first | (go_simp; done) | (go_simp; rfl))
                          intro gb220 hg w25 hbox hb
                          have HS0_ := (hb.cell (World.block_lt_of_cell? _ _ (hHeld.1))).trans (hHeld.1)
                          have HS1_ := (hb.cell (World.block_lt_of_cell? _ _ (hHeld.2.1))).trans (hHeld.2.1)
                          have HS2_ := (hb.cell (World.block_lt_of_cell? _ _ (hHeld.2.2.1))).trans (hHeld.2.2.1)
                          have HS3_ := (hb.cell (World.block_lt_of_cell? _ _ (hHeld.2.2.2.1))).trans (hHeld.2.2.2.1)
                          have HS4_ := (hb.cell (World.block_lt_of_cell? _ _ (hHeld.2.2.2.2.1))).trans (hHeld.2.2.2.2.1)
                          have HS5_ := (hb.cell (World.block_lt_of_cell? _ _ (hHeld.2.2.2.2.2.1))).trans (hHeld.2.2.2.2.2.1)
                          have HS6_ := (hb.cell (World.block_lt_of_cell? _ _ (hHeld.2.2.2.2.2.2))).trans (hHeld.2.2.2.2.2.2)
                          replace HO205 := az (Kd.R_below (by (with_reducible repeat (first | apply Kd.R_alloc | apply Kd.R_drewN | apply Kd.R_drew)); exact HO205.out) hb)
                          have BK220 := az (hbox)
                          have GW220 := az ((by rw [hg]; exact (below_size (by repeat (first | (with_reducible first | exact HB.out | apply wa | apply wn | apply wd | refine ws ‹_› ?_) | exact HB.out))) : w.heap.size ≤ gb220))
                          have GE220 := GW220
                          replace HB := az (below_step (by repeat (first | (with_reducible first | exact HB.out | apply wa | apply wn | apply wd | refine ws ‹_› ?_) | exact HB.out)) hb)
                          obtain ⟨NB202_220, NB220_202⟩ := nb BK202 hg (fun h => by (with_reducible repeat (first | apply bn | apply bd | apply ba)); exact h)
                          replace BK202 := bb BK202 (fun h => by (with_reducible repeat (first | apply bn | apply bd | apply ba)); exact h) hb
                          clear hb hbox hg
                          refine hK.out _ _ ⟨HS0_, HS1_, HS2_, HS3_, HS4_, HS5_, HS6_⟩ (fun hHeld => ?_)
                          clear hK K
                          refine norm_ (a' := ?_) ?_ ?_
                          rotate_left
                          ·show Act.put _ (some 5) _ = _
                           simp only [Act.put, List.setIfInBounds_toArray, List.set_cons_zero, List.set_cons_succ, i64_w, i32_w]
                           rfl
                          exact norm_ (by first | (simp only [putAll, Act.put, List.setIfInBounds_toArray, List.set_cons_zero, List.set_cons_succ]; done) | (simp only [putAll, Act.put, List.setIfInBounds_toArray, List.set_cons_zero, List.set_cons_succ]; rfl)) (hJ29 (gb220) _ ⟨hHeld, (by (with_reducible repeat (first | apply Kd.R_alloc | apply Kd.R_drewN | apply Kd.R_drew)); exact HO205.out), (by (with_reducible repeat (first | apply bn | apply bd | apply ba)); exact BK202.out), (by (with_reducible repeat (first | apply bn | apply bd | apply ba)); exact BK220.out), GW220.out, GE220.out, NB202_220.out, NB220_202.out, (by repeat (first | (with_reducible first | exact HB.out | apply wa | apply wn | apply wd | refine ws ‹_› ?_) | exact HB.out))⟩)
                        ·skip
                         rintro gb220 w26 ⟨hS_, h0_, h1_, h2_, h3_, h4_, h5_, h6_, h7_⟩
                         replace HO205 : Aside0 (Kd.R Kd.string 9 w26 w.heap.size (fun _ => True) (.slice (some ad206) t203.length co23) t203) := ⟨h0_⟩
                         replace BK202 : Aside0 (w26.heap[gb202]? = some (.cells #[.int .i64 0, .int .i64 0, .int .i64 0, .int .i64 0, .int .i64 0, .int .i64 0, .int .i64 0, .int .i64 0] 37 (0, 0))) := ⟨h1_⟩
                         have BK220 : Aside0 (w26.heap[gb220]? = some (.cells #[.int .i64 0, .int .i64 0, .int .i64 0, .int .i64 0, .int .i64 0, .int .i64 0, .int .i64 0, .int .i64 0] 37 (0, 0))) := ⟨h2_⟩
                         have GW220 : Aside0 (w.heap.size ≤ gb220) := ⟨h3_⟩
                         have GE220 : Aside0 (w.heap.size ≤ gb220) := ⟨h4_⟩
                         have NB202_220 : Aside0 (gb202 ≠ gb220) := ⟨h5_⟩
                         have NB220_202 : Aside0 (gb220 ≠ gb202) := ⟨h6_⟩
                         replace HB : Aside0 (Below w.heap.size w w26) := ⟨h7_⟩
                         clear h0_ h1_ h2_ h3_ h4_ h5_ h6_ h7_
                         have hHeld : w26.cell? ⟨ad206.block, ad206.off + 1, none⟩ = some (.string (rdOf ByteArray.empty t203 1)) ∧ w26.cell? ⟨ad206.block, ad206.off + 2, none⟩ = some (.string (rdOf ByteArray.empty t203 2)) ∧ w26.cell? ⟨ad206.block, ad206.off + 3, none⟩ = some (.string (rdOf ByteArray.empty t203 3)) ∧ w26.cell? ⟨ad206.block, ad206.off + 4, none⟩ = some (.string (rdOf ByteArray.empty t203 4)) ∧ w26.cell? ⟨ad206.block, ad206.off + 5, none⟩ = some (.string (rdOf ByteArray.empty t203 5)) ∧ w26.cell? ⟨ad206.block, ad206.off + 6, none⟩ = some (.string (rdOf ByteArray.empty t203 6)) ∧ w26.cell? ⟨ad206.block, ad206.off + 7, none⟩ = some (.string (rdOf ByteArray.empty t203 7)) := hS_
                         refine norm_ (a' := ?_) ?_ ?_
                         rotate_left
                         ·simp only [putAll, Act.put, List.setIfInBounds_toArray, List.set_cons_zero, List.set_cons_succ]
                          rfl
                         refine one_ (i := 3) (N := some 20) #[true, true, true, true, true, true, true, false, true, true, true, false, true, true, true, false, true, true, true, false, true, true, true, false, true, true, true, false, false, true, false] rfl rfl (one_of HT_.out (by kernel_rfl)) (by decide) (fun K hK => ?_)
                         refine goes_ Tryd.func55 (by kernel_rfl) rfl #[.string (rdOf ByteArray.empty t203 1)] (by rfl) rfl rfl (by (try simp only [List.map_toArray, List.map_cons, List.map_nil]); first | done | rfl | (simp only [List.length_drop, List.length_take]; rfl)) ?_
                         with_reducible refine (spec_l2Num.calls k (rdOf ByteArray.empty t203 1) t207 _ A8.out).mono ?_
                         rintro e w' ⟨rfl, ⟨nd, rfl⟩⟩
                         refine ⟨_, rfl, ?_⟩
                         refine hK.out _ _ ⟨hHeld.1, hHeld.2.1, hHeld.2.2.1, hHeld.2.2.2.1, hHeld.2.2.2.2.1, hHeld.2.2.2.2.2.1, hHeld.2.2.2.2.2.2⟩ (fun hHeld => ?_)
                         clear hK K
                         refine norm_ (a' := ?_) ?_ ?_
                         rotate_left
                         ·show Act.put _ (some 20) _ = _
                          simp only [Act.put, List.setIfInBounds_toArray, List.set_cons_zero, List.set_cons_succ, i64_w, i32_w]
                          rfl
                         exact norm_ (by first | (simp only [putAll, Act.put, List.setIfInBounds_toArray, List.set_cons_zero, List.set_cons_succ]; done) | (simp only [putAll, Act.put, List.setIfInBounds_toArray, List.set_cons_zero, List.set_cons_succ]; rfl)) (hJ3_29 (gb220) _ ⟨hHeld, (by (with_reducible repeat (first | apply Kd.R_alloc | apply Kd.R_drewN | apply Kd.R_drew)); exact HO205.out), (by (with_reducible repeat (first | apply bn | apply bd | apply ba)); exact BK202.out), (by (with_reducible repeat (first | apply bn | apply bd | apply ba)); exact BK220.out), GW220.out, GE220.out, NB202_220.out, NB220_202.out, (by repeat (first | (with_reducible first | exact HB.out | apply wa | apply wn | apply wd | refine ws ‹_› ?_) | exact HB.out))⟩)
                       ·skip
                        rintro _ w25 ⟨hS_, h0_, h1_, h2_⟩
                        replace HO205 : Aside0 (Kd.R Kd.string 9 w25 w.heap.size (fun _ => True) (.slice (some ad206) t203.length co23) t203) := ⟨h0_⟩
                        replace BK202 : Aside0 (w25.heap[gb202]? = some (.cells #[.int .i64 0, .int .i64 0, .int .i64 0, .int .i64 0, .int .i64 0, .int .i64 0, .int .i64 0, .int .i64 0] 37 (0, 0))) := ⟨h1_⟩
                        replace HB : Aside0 (Below w.heap.size w w25) := ⟨h2_⟩
                        clear h0_ h1_ h2_
                        have hHeld : w25.cell? ⟨ad206.block, ad206.off + 1, none⟩ = some (.string (rdOf ByteArray.empty t203 1)) ∧ w25.cell? ⟨ad206.block, ad206.off + 2, none⟩ = some (.string (rdOf ByteArray.empty t203 2)) ∧ w25.cell? ⟨ad206.block, ad206.off + 3, none⟩ = some (.string (rdOf ByteArray.empty t203 3)) ∧ w25.cell? ⟨ad206.block, ad206.off + 4, none⟩ = some (.string (rdOf ByteArray.empty t203 4)) ∧ w25.cell? ⟨ad206.block, ad206.off + 5, none⟩ = some (.string (rdOf ByteArray.empty t203 5)) ∧ w25.cell? ⟨ad206.block, ad206.off + 6, none⟩ = some (.string (rdOf ByteArray.empty t203 6)) ∧ w25.cell? ⟨ad206.block, ad206.off + 7, none⟩ = some (.string (rdOf ByteArray.empty t203 7)) := hS_
                        refine norm_ (a' := ?_) ?_ ?_
                        rotate_left
                        ·simp only [putAll, Act.put, List.setIfInBounds_toArray, List.set_cons_zero, List.set_cons_succ]
                         rfl
                        refine two_ (i := 7) (j := 29) (Ni := some 24) (Nj := some 5) #[true, true, true, true, true, true, true, true, true, true, true, false, true, true, true, false, true, true, true, false, true, true, true, false, true, true, true, false, false, false, false] #[true, true, true, true, true, true, true, false, true, true, true, false, true, true, true, false, true, true, true, false, true, true, true, false, true, true, true, false, false, true, false] rfl rfl rfl rfl (two_of HT_.out (by kernel_rfl)) (by decide) (by decide) (fun K hK => ?_) (fun K hK => ?_)
                        ·skip
                         refine goes_ Tryd.func55 (by kernel_rfl) rfl #[.string (rdOf ByteArray.empty t203 2)] (by rfl) rfl rfl (by (try simp only [List.map_toArray, List.map_cons, List.map_nil]); first | done | rfl | (simp only [List.length_drop, List.length_take]; rfl)) ?_
                         with_reducible refine (spec_l2Num.calls k (rdOf ByteArray.empty t203 2) t209 _ A10.out).mono ?_
                         rintro e w' ⟨rfl, ⟨nd, rfl⟩⟩
                         refine ⟨_, rfl, ?_⟩
                         refine hK.out _ _ ⟨hHeld.1, hHeld.2.1, hHeld.2.2.1, hHeld.2.2.2.1, hHeld.2.2.2.2.1, hHeld.2.2.2.2.2.1, hHeld.2.2.2.2.2.2⟩ (fun hHeld => ?_)
                         clear hK K
                         refine norm_ (a' := ?_) ?_ ?_
                         rotate_left
                         ·show Act.put _ (some 24) _ = _
                          simp only [Act.put, List.setIfInBounds_toArray, List.set_cons_zero, List.set_cons_succ, i64_w, i32_w]
                          rfl
                         exact norm_ (by first | (simp only [putAll, Act.put, List.setIfInBounds_toArray, List.set_cons_zero, List.set_cons_succ]; done) | (simp only [putAll, Act.put, List.setIfInBounds_toArray, List.set_cons_zero, List.set_cons_succ]; rfl)) (hJ3_7 () _ ⟨hHeld, (by (with_reducible repeat (first | apply Kd.R_alloc | apply Kd.R_drewN | apply Kd.R_drew)); exact HO205.out), (by (with_reducible repeat (first | apply bn | apply bd | apply ba)); exact BK202.out), (by repeat (first | (with_reducible first | exact HB.out | apply wa | apply wn | apply wd | refine ws ‹_› ?_) | exact HB.out))⟩)
                        ·skip
                         refine box_step ?hg (N := 5) ?hd (cs := #[.int .i64 0, .int .i64 0, .int .i64 0, .int .i64 0, .int .i64 0, .int .i64 0, .int .i64 0, .int .i64 0]) (t := 37) ?hr ?_; (case hd => rfl); (case hg => rfl); (case hr => first | (go_simp; done) | (go_simp; rfl))
                         intro gb220 hg w26 hbox hb
                         have HS0_ := (hb.cell (World.block_lt_of_cell? _ _ (hHeld.1))).trans (hHeld.1)
                         have HS1_ := (hb.cell (World.block_lt_of_cell? _ _ (hHeld.2.1))).trans (hHeld.2.1)
                         have HS2_ := (hb.cell (World.block_lt_of_cell? _ _ (hHeld.2.2.1))).trans (hHeld.2.2.1)
                         have HS3_ := (hb.cell (World.block_lt_of_cell? _ _ (hHeld.2.2.2.1))).trans (hHeld.2.2.2.1)
                         have HS4_ := (hb.cell (World.block_lt_of_cell? _ _ (hHeld.2.2.2.2.1))).trans (hHeld.2.2.2.2.1)
                         have HS5_ := (hb.cell (World.block_lt_of_cell? _ _ (hHeld.2.2.2.2.2.1))).trans (hHeld.2.2.2.2.2.1)
                         have HS6_ := (hb.cell (World.block_lt_of_cell? _ _ (hHeld.2.2.2.2.2.2))).trans (hHeld.2.2.2.2.2.2)
                         replace HO205 := az (Kd.R_below (by (with_reducible repeat (first | apply Kd.R_alloc | apply Kd.R_drewN | apply Kd.R_drew)); exact HO205.out) hb)
                         have BK220 := az (hbox)
                         have GW220 := az ((by rw [hg]; exact (below_size (by repeat (first | (with_reducible first | exact HB.out | apply wa | apply wn | apply wd | refine ws ‹_› ?_) | exact HB.out))) : w.heap.size ≤ gb220))
                         have GE220 := GW220
                         replace HB := az (below_step (by repeat (first | (with_reducible first | exact HB.out | apply wa | apply wn | apply wd | refine ws ‹_› ?_) | exact HB.out)) hb)
                         obtain ⟨NB202_220, NB220_202⟩ := nb BK202 hg (fun h => by (with_reducible repeat (first | apply bn | apply bd | apply ba)); exact h)
                         replace BK202 := bb BK202 (fun h => by (with_reducible repeat (first | apply bn | apply bd | apply ba)); exact h) hb
                         clear hb hbox hg
                         refine hK.out _ _ ⟨HS0_, HS1_, HS2_, HS3_, HS4_, HS5_, HS6_⟩ (fun hHeld => ?_)
                         clear hK K
                         refine norm_ (a' := ?_) ?_ ?_
                         rotate_left
                         ·show Act.put _ (some 5) _ = _
                          simp only [Act.put, List.setIfInBounds_toArray, List.set_cons_zero, List.set_cons_succ, i64_w, i32_w]
                          rfl
                         exact norm_ (by first | (simp only [putAll, Act.put, List.setIfInBounds_toArray, List.set_cons_zero, List.set_cons_succ]; done) | (simp only [putAll, Act.put, List.setIfInBounds_toArray, List.set_cons_zero, List.set_cons_succ]; rfl)) (hJ3_29 (gb220) _ ⟨hHeld, (by (with_reducible repeat (first | apply Kd.R_alloc | apply Kd.R_drewN | apply Kd.R_drew)); exact HO205.out), (by (with_reducible repeat (first | apply bn | apply bd | apply ba)); exact BK202.out), (by (with_reducible repeat (first | apply bn | apply bd | apply ba)); exact BK220.out), GW220.out, GE220.out, NB202_220.out, NB220_202.out, (by repeat (first | (with_reducible first | exact HB.out | apply wa | apply wn | apply wd | refine ws ‹_› ?_) | exact HB.out))⟩)
                      ·skip
                       rintro gb220 w26 ⟨hS_, h0_, h1_, h2_, h3_, h4_, h5_, h6_, h7_⟩
                       replace HO205 : Aside0 (Kd.R Kd.string 9 w26 w.heap.size (fun _ => True) (.slice (some ad206) t203.length co23) t203) := ⟨h0_⟩
                       replace BK202 : Aside0 (w26.heap[gb202]? = some (.cells #[.int .i64 0, .int .i64 0, .int .i64 0, .int .i64 0, .int .i64 0, .int .i64 0, .int .i64 0, .int .i64 0] 37 (0, 0))) := ⟨h1_⟩
                       have BK220 : Aside0 (w26.heap[gb220]? = some (.cells #[.int .i64 0, .int .i64 0, .int .i64 0, .int .i64 0, .int .i64 0, .int .i64 0, .int .i64 0, .int .i64 0] 37 (0, 0))) := ⟨h2_⟩
                       have GW220 : Aside0 (w.heap.size ≤ gb220) := ⟨h3_⟩
                       have GE220 : Aside0 (w.heap.size ≤ gb220) := ⟨h4_⟩
                       have NB202_220 : Aside0 (gb202 ≠ gb220) := ⟨h5_⟩
                       have NB220_202 : Aside0 (gb220 ≠ gb202) := ⟨h6_⟩
                       replace HB : Aside0 (Below w.heap.size w w26) := ⟨h7_⟩
                       clear h0_ h1_ h2_ h3_ h4_ h5_ h6_ h7_
                       have hHeld : w26.cell? ⟨ad206.block, ad206.off + 1, none⟩ = some (.string (rdOf ByteArray.empty t203 1)) ∧ w26.cell? ⟨ad206.block, ad206.off + 2, none⟩ = some (.string (rdOf ByteArray.empty t203 2)) ∧ w26.cell? ⟨ad206.block, ad206.off + 3, none⟩ = some (.string (rdOf ByteArray.empty t203 3)) ∧ w26.cell? ⟨ad206.block, ad206.off + 4, none⟩ = some (.string (rdOf ByteArray.empty t203 4)) ∧ w26.cell? ⟨ad206.block, ad206.off + 5, none⟩ = some (.string (rdOf ByteArray.empty t203 5)) ∧ w26.cell? ⟨ad206.block, ad206.off + 6, none⟩ = some (.string (rdOf ByteArray.empty t203 6)) ∧ w26.cell? ⟨ad206.block, ad206.off + 7, none⟩ = some (.string (rdOf ByteArray.empty t203 7)) := hS_
                       refine norm_ (a' := ?_) ?_ ?_
                       rotate_left
                       ·simp only [putAll, Act.put, List.setIfInBounds_toArray, List.set_cons_zero, List.set_cons_succ]
                        rfl
                       refine one_ (i := 7) (N := some 24) #[true, true, true, true, true, true, true, true, true, true, true, false, true, true, true, false, true, true, true, false, true, true, true, false, true, true, true, false, false, true, false] rfl rfl (one_of HT_.out (by kernel_rfl)) (by decide) (fun K hK => ?_)
                       refine goes_ Tryd.func55 (by kernel_rfl) rfl #[.string (rdOf ByteArray.empty t203 2)] (by rfl) rfl rfl (by (try simp only [List.map_toArray, List.map_cons, List.map_nil]); first | done | rfl | (simp only [List.length_drop, List.length_take]; rfl)) ?_
                       with_reducible refine (spec_l2Num.calls k (rdOf ByteArray.empty t203 2) t209 _ A10.out).mono ?_
                       rintro e w' ⟨rfl, ⟨nd, rfl⟩⟩
                       refine ⟨_, rfl, ?_⟩
                       refine hK.out _ _ ⟨hHeld.1, hHeld.2.1, hHeld.2.2.1, hHeld.2.2.2.1, hHeld.2.2.2.2.1, hHeld.2.2.2.2.2.1, hHeld.2.2.2.2.2.2⟩ (fun hHeld => ?_)
                       clear hK K
                       refine norm_ (a' := ?_) ?_ ?_
                       rotate_left
                       ·show Act.put _ (some 24) _ = _
                        simp only [Act.put, List.setIfInBounds_toArray, List.set_cons_zero, List.set_cons_succ, i64_w, i32_w]
                        rfl
                       exact norm_ (by first | (simp only [putAll, Act.put, List.setIfInBounds_toArray, List.set_cons_zero, List.set_cons_succ]; done) | (simp only [putAll, Act.put, List.setIfInBounds_toArray, List.set_cons_zero, List.set_cons_succ]; rfl)) (hJ3_7_29 (gb220) _ ⟨hHeld, (by (with_reducible repeat (first | apply Kd.R_alloc | apply Kd.R_drewN | apply Kd.R_drew)); exact HO205.out), (by (with_reducible repeat (first | apply bn | apply bd | apply ba)); exact BK202.out), (by (with_reducible repeat (first | apply bn | apply bd | apply ba)); exact BK220.out), GW220.out, GE220.out, NB202_220.out, NB220_202.out, (by repeat (first | (with_reducible first | exact HB.out | apply wa | apply wn | apply wd | refine ws ‹_› ?_) | exact HB.out))⟩)
                     ·skip
                      rintro _ w25 ⟨hS_, h0_, h1_, h2_⟩
                      replace HO205 : Aside0 (Kd.R Kd.string 9 w25 w.heap.size (fun _ => True) (.slice (some ad206) t203.length co23) t203) := ⟨h0_⟩
                      replace BK202 : Aside0 (w25.heap[gb202]? = some (.cells #[.int .i64 0, .int .i64 0, .int .i64 0, .int .i64 0, .int .i64 0, .int .i64 0, .int .i64 0, .int .i64 0] 37 (0, 0))) := ⟨h1_⟩
                      replace HB : Aside0 (Below w.heap.size w w25) := ⟨h2_⟩
                      clear h0_ h1_ h2_
                      have hHeld : w25.cell? ⟨ad206.block, ad206.off + 1, none⟩ = some (.string (rdOf ByteArray.empty t203 1)) ∧ w25.cell? ⟨ad206.block, ad206.off + 2, none⟩ = some (.string (rdOf ByteArray.empty t203 2)) ∧ w25.cell? ⟨ad206.block, ad206.off + 3, none⟩ = some (.string (rdOf ByteArray.empty t203 3)) ∧ w25.cell? ⟨ad206.block, ad206.off + 4, none⟩ = some (.string (rdOf ByteArray.empty t203 4)) ∧ w25.cell? ⟨ad206.block, ad206.off + 5, none⟩ = some (.string (rdOf ByteArray.empty t203 5)) ∧ w25.cell? ⟨ad206.block, ad206.off + 6, none⟩ = some (.string (rdOf ByteArray.empty t203 6)) ∧ w25.cell? ⟨ad206.block, ad206.off + 7, none⟩ = some (.string (rdOf ByteArray.empty t203 7)) := hS_
                      refine norm_ (a' := ?_) ?_ ?_
                      rotate_left
                      ·simp only [putAll, Act.put, List.setIfInBounds_toArray, List.set_cons_zero, List.set_cons_succ]
                       rfl
                      refine two_ (i := 11) (j := 29) (Ni := some 28) (Nj := some 5) #[true, true, true, true, true, true, true, true, true, true, true, true, true, true, true, false, true, true, true, false, true, true, true, false, true, true, true, false, false, false, false] #[true, true, true, true, true, true, true, true, true, true, true, false, true, true, true, false, true, true, true, false, true, true, true, false, true, true, true, false, false, true, false] rfl rfl rfl rfl (two_of HT_.out (by kernel_rfl)) (by decide) (by decide) (fun K hK => ?_) (fun K hK => ?_)
                      ·skip
                       refine goes_ Tryd.func55 (by kernel_rfl) rfl #[.string (rdOf ByteArray.empty t203 3)] (by rfl) rfl rfl (by (try simp only [List.map_toArray, List.map_cons, List.map_nil]); first | done | rfl | (simp only [List.length_drop, List.length_take]; rfl)) ?_
                       with_reducible refine (spec_l2Num.calls k (rdOf ByteArray.empty t203 3) t211 _ A12.out).mono ?_
                       rintro e w' ⟨rfl, ⟨nd, rfl⟩⟩
                       refine ⟨_, rfl, ?_⟩
                       refine hK.out _ _ ⟨hHeld.1, hHeld.2.1, hHeld.2.2.1, hHeld.2.2.2.1, hHeld.2.2.2.2.1, hHeld.2.2.2.2.2.1, hHeld.2.2.2.2.2.2⟩ (fun hHeld => ?_)
                       clear hK K
                       refine norm_ (a' := ?_) ?_ ?_
                       rotate_left
                       ·show Act.put _ (some 28) _ = _
                        simp only [Act.put, List.setIfInBounds_toArray, List.set_cons_zero, List.set_cons_succ, i64_w, i32_w]
                        rfl
                       exact norm_ (by first | (simp only [putAll, Act.put, List.setIfInBounds_toArray, List.set_cons_zero, List.set_cons_succ]; done) | (simp only [putAll, Act.put, List.setIfInBounds_toArray, List.set_cons_zero, List.set_cons_succ]; rfl)) (hJ3_7_11 () _ ⟨hHeld, (by (with_reducible repeat (first | apply Kd.R_alloc | apply Kd.R_drewN | apply Kd.R_drew)); exact HO205.out), (by (with_reducible repeat (first | apply bn | apply bd | apply ba)); exact BK202.out), (by repeat (first | (with_reducible first | exact HB.out | apply wa | apply wn | apply wd | refine ws ‹_› ?_) | exact HB.out))⟩)
                      ·skip
                       refine box_step ?hg (N := 5) ?hd (cs := #[.int .i64 0, .int .i64 0, .int .i64 0, .int .i64 0, .int .i64 0, .int .i64 0, .int .i64 0, .int .i64 0]) (t := 37) ?hr ?_; (case hd => rfl); (case hg => rfl); (case hr => first | (go_simp; done) | (go_simp; rfl))
                       intro gb220 hg w26 hbox hb
                       have HS0_ := (hb.cell (World.block_lt_of_cell? _ _ (hHeld.1))).trans (hHeld.1)
                       have HS1_ := (hb.cell (World.block_lt_of_cell? _ _ (hHeld.2.1))).trans (hHeld.2.1)
                       have HS2_ := (hb.cell (World.block_lt_of_cell? _ _ (hHeld.2.2.1))).trans (hHeld.2.2.1)
                       have HS3_ := (hb.cell (World.block_lt_of_cell? _ _ (hHeld.2.2.2.1))).trans (hHeld.2.2.2.1)
                       have HS4_ := (hb.cell (World.block_lt_of_cell? _ _ (hHeld.2.2.2.2.1))).trans (hHeld.2.2.2.2.1)
                       have HS5_ := (hb.cell (World.block_lt_of_cell? _ _ (hHeld.2.2.2.2.2.1))).trans (hHeld.2.2.2.2.2.1)
                       have HS6_ := (hb.cell (World.block_lt_of_cell? _ _ (hHeld.2.2.2.2.2.2))).trans (hHeld.2.2.2.2.2.2)
                       replace HO205 := az (Kd.R_below (by (with_reducible repeat (first | apply Kd.R_alloc | apply Kd.R_drewN | apply Kd.R_drew)); exact HO205.out) hb)
                       have BK220 := az (hbox)
                       have GW220 := az ((by rw [hg]; exact (below_size (by repeat (first | (with_reducible first | exact HB.out | apply wa | apply wn | apply wd | refine ws ‹_› ?_) | exact HB.out))) : w.heap.size ≤ gb220))
                       have GE220 := GW220
                       replace HB := az (below_step (by repeat (first | (with_reducible first | exact HB.out | apply wa | apply wn | apply wd | refine ws ‹_› ?_) | exact HB.out)) hb)
                       obtain ⟨NB202_220, NB220_202⟩ := nb BK202 hg (fun h => by (with_reducible repeat (first | apply bn | apply bd | apply ba)); exact h)
                       replace BK202 := bb BK202 (fun h => by (with_reducible repeat (first | apply bn | apply bd | apply ba)); exact h) hb
                       clear hb hbox hg
                       refine hK.out _ _ ⟨HS0_, HS1_, HS2_, HS3_, HS4_, HS5_, HS6_⟩ (fun hHeld => ?_)
                       clear hK K
                       refine norm_ (a' := ?_) ?_ ?_
                       rotate_left
                       ·show Act.put _ (some 5) _ = _
                        simp only [Act.put, List.setIfInBounds_toArray, List.set_cons_zero, List.set_cons_succ, i64_w, i32_w]
                        rfl
                       exact norm_ (by first | (simp only [putAll, Act.put, List.setIfInBounds_toArray, List.set_cons_zero, List.set_cons_succ]; done) | (simp only [putAll, Act.put, List.setIfInBounds_toArray, List.set_cons_zero, List.set_cons_succ]; rfl)) (hJ3_7_29 (gb220) _ ⟨hHeld, (by (with_reducible repeat (first | apply Kd.R_alloc | apply Kd.R_drewN | apply Kd.R_drew)); exact HO205.out), (by (with_reducible repeat (first | apply bn | apply bd | apply ba)); exact BK202.out), (by (with_reducible repeat (first | apply bn | apply bd | apply ba)); exact BK220.out), GW220.out, GE220.out, NB202_220.out, NB220_202.out, (by repeat (first | (with_reducible first | exact HB.out | apply wa | apply wn | apply wd | refine ws ‹_› ?_) | exact HB.out))⟩)
                    ·skip
                     rintro gb220 w26 ⟨hS_, h0_, h1_, h2_, h3_, h4_, h5_, h6_, h7_⟩
                     replace HO205 : Aside0 (Kd.R Kd.string 9 w26 w.heap.size (fun _ => True) (.slice (some ad206) t203.length co23) t203) := ⟨h0_⟩
                     replace BK202 : Aside0 (w26.heap[gb202]? = some (.cells #[.int .i64 0, .int .i64 0, .int .i64 0, .int .i64 0, .int .i64 0, .int .i64 0, .int .i64 0, .int .i64 0] 37 (0, 0))) := ⟨h1_⟩
                     have BK220 : Aside0 (w26.heap[gb220]? = some (.cells #[.int .i64 0, .int .i64 0, .int .i64 0, .int .i64 0, .int .i64 0, .int .i64 0, .int .i64 0, .int .i64 0] 37 (0, 0))) := ⟨h2_⟩
                     have GW220 : Aside0 (w.heap.size ≤ gb220) := ⟨h3_⟩
                     have GE220 : Aside0 (w.heap.size ≤ gb220) := ⟨h4_⟩
                     have NB202_220 : Aside0 (gb202 ≠ gb220) := ⟨h5_⟩
                     have NB220_202 : Aside0 (gb220 ≠ gb202) := ⟨h6_⟩
                     replace HB : Aside0 (Below w.heap.size w w26) := ⟨h7_⟩
                     clear h0_ h1_ h2_ h3_ h4_ h5_ h6_ h7_
                     have hHeld : w26.cell? ⟨ad206.block, ad206.off + 1, none⟩ = some (.string (rdOf ByteArray.empty t203 1)) ∧ w26.cell? ⟨ad206.block, ad206.off + 2, none⟩ = some (.string (rdOf ByteArray.empty t203 2)) ∧ w26.cell? ⟨ad206.block, ad206.off + 3, none⟩ = some (.string (rdOf ByteArray.empty t203 3)) ∧ w26.cell? ⟨ad206.block, ad206.off + 4, none⟩ = some (.string (rdOf ByteArray.empty t203 4)) ∧ w26.cell? ⟨ad206.block, ad206.off + 5, none⟩ = some (.string (rdOf ByteArray.empty t203 5)) ∧ w26.cell? ⟨ad206.block, ad206.off + 6, none⟩ = some (.string (rdOf ByteArray.empty t203 6)) ∧ w26.cell? ⟨ad206.block, ad206.off + 7, none⟩ = some (.string (rdOf ByteArray.empty t203 7)) := hS_
                     refine norm_ (a' := ?_) ?_ ?_
                     rotate_left
                     ·simp only [putAll, Act.put, List.setIfInBounds_toArray, List.set_cons_zero, List.set_cons_succ]
                      rfl
                     refine one_ (i := 11) (N := some 28) #[true, true, true, true, true, true, true, true, true, true, true, true, true, true, true, false, true, true, true, false, true, true, true, false, true, true, true, false, false, true, false] rfl rfl (one_of HT_.out (by kernel_rfl)) (by decide) (fun K hK => ?_)
                     refine goes_ Tryd.func55 (by kernel_rfl) rfl #[.string (rdOf ByteArray.empty t203 3)] (by rfl) rfl rfl (by (try simp only [List.map_toArray, List.map_cons, List.map_nil]); first | done | rfl | (simp only [List.length_drop, List.length_take]; rfl)) ?_
                     with_reducible refine (spec_l2Num.calls k (rdOf ByteArray.empty t203 3) t211 _ A12.out).mono ?_
                     rintro e w' ⟨rfl, ⟨nd, rfl⟩⟩
                     refine ⟨_, rfl, ?_⟩
                     refine hK.out _ _ ⟨hHeld.1, hHeld.2.1, hHeld.2.2.1, hHeld.2.2.2.1, hHeld.2.2.2.2.1, hHeld.2.2.2.2.2.1, hHeld.2.2.2.2.2.2⟩ (fun hHeld => ?_)
                     clear hK K
                     refine norm_ (a' := ?_) ?_ ?_
                     rotate_left
                     ·show Act.put _ (some 28) _ = _
                      simp only [Act.put, List.setIfInBounds_toArray, List.set_cons_zero, List.set_cons_succ, i64_w, i32_w]
                      rfl
                     exact norm_ (by first | (simp only [putAll, Act.put, List.setIfInBounds_toArray, List.set_cons_zero, List.set_cons_succ]; done) | (simp only [putAll, Act.put, List.setIfInBounds_toArray, List.set_cons_zero, List.set_cons_succ]; rfl)) (hJ3_7_11_29 (gb220) _ ⟨hHeld, (by (with_reducible repeat (first | apply Kd.R_alloc | apply Kd.R_drewN | apply Kd.R_drew)); exact HO205.out), (by (with_reducible repeat (first | apply bn | apply bd | apply ba)); exact BK202.out), (by (with_reducible repeat (first | apply bn | apply bd | apply ba)); exact BK220.out), GW220.out, GE220.out, NB202_220.out, NB220_202.out, (by repeat (first | (with_reducible first | exact HB.out | apply wa | apply wn | apply wd | refine ws ‹_› ?_) | exact HB.out))⟩)
                   ·skip
                    rintro _ w25 ⟨hS_, h0_, h1_, h2_⟩
                    replace HO205 : Aside0 (Kd.R Kd.string 9 w25 w.heap.size (fun _ => True) (.slice (some ad206) t203.length co23) t203) := ⟨h0_⟩
                    replace BK202 : Aside0 (w25.heap[gb202]? = some (.cells #[.int .i64 0, .int .i64 0, .int .i64 0, .int .i64 0, .int .i64 0, .int .i64 0, .int .i64 0, .int .i64 0] 37 (0, 0))) := ⟨h1_⟩
                    replace HB : Aside0 (Below w.heap.size w w25) := ⟨h2_⟩
                    clear h0_ h1_ h2_
                    have hHeld : w25.cell? ⟨ad206.block, ad206.off + 1, none⟩ = some (.string (rdOf ByteArray.empty t203 1)) ∧ w25.cell? ⟨ad206.block, ad206.off + 2, none⟩ = some (.string (rdOf ByteArray.empty t203 2)) ∧ w25.cell? ⟨ad206.block, ad206.off + 3, none⟩ = some (.string (rdOf ByteArray.empty t203 3)) ∧ w25.cell? ⟨ad206.block, ad206.off + 4, none⟩ = some (.string (rdOf ByteArray.empty t203 4)) ∧ w25.cell? ⟨ad206.block, ad206.off + 5, none⟩ = some (.string (rdOf ByteArray.empty t203 5)) ∧ w25.cell? ⟨ad206.block, ad206.off + 6, none⟩ = some (.string (rdOf ByteArray.empty t203 6)) ∧ w25.cell? ⟨ad206.block, ad206.off + 7, none⟩ = some (.string (rdOf ByteArray.empty t203 7)) := hS_
                    refine norm_ (a' := ?_) ?_ ?_
                    rotate_left
                    ·simp only [putAll, Act.put, List.setIfInBounds_toArray, List.set_cons_zero, List.set_cons_succ]
                     rfl
                    refine two_ (i := 15) (j := 29) (Ni := some 32) (Nj := some 5) #[true, true, true, true, true, true, true, true, true, true, true, true, true, true, true, true, true, true, true, false, true, true, true, false, true, true, true, false, false, false, false] #[true, true, true, true, true, true, true, true, true, true, true, true, true, true, true, false, true, true, true, false, true, true, true, false, true, true, true, false, false, true, false] rfl rfl rfl rfl (two_of HT_.out (by kernel_rfl)) (by decide) (by decide) (fun K hK => ?_) (fun K hK => ?_)
                    ·skip
                     refine goes_ Tryd.func55 (by kernel_rfl) rfl #[.string (rdOf ByteArray.empty t203 4)] (by rfl) rfl rfl (by (try simp only [List.map_toArray, List.map_cons, List.map_nil]); first | done | rfl | (simp only [List.length_drop, List.length_take]; rfl)) ?_
                     with_reducible refine (spec_l2Num.calls k (rdOf ByteArray.empty t203 4) t213 _ A14.out).mono ?_
                     rintro e w' ⟨rfl, ⟨nd, rfl⟩⟩
                     refine ⟨_, rfl, ?_⟩
                     refine hK.out _ _ ⟨hHeld.1, hHeld.2.1, hHeld.2.2.1, hHeld.2.2.2.1, hHeld.2.2.2.2.1, hHeld.2.2.2.2.2.1, hHeld.2.2.2.2.2.2⟩ (fun hHeld => ?_)
                     clear hK K
                     refine norm_ (a' := ?_) ?_ ?_
                     rotate_left
                     ·show Act.put _ (some 32) _ = _
                      simp only [Act.put, List.setIfInBounds_toArray, List.set_cons_zero, List.set_cons_succ, i64_w, i32_w]
                      rfl
                     exact norm_ (by first | (simp only [putAll, Act.put, List.setIfInBounds_toArray, List.set_cons_zero, List.set_cons_succ]; done) | (simp only [putAll, Act.put, List.setIfInBounds_toArray, List.set_cons_zero, List.set_cons_succ]; rfl)) (hJ3_7_11_15 () _ ⟨hHeld, (by (with_reducible repeat (first | apply Kd.R_alloc | apply Kd.R_drewN | apply Kd.R_drew)); exact HO205.out), (by (with_reducible repeat (first | apply bn | apply bd | apply ba)); exact BK202.out), (by repeat (first | (with_reducible first | exact HB.out | apply wa | apply wn | apply wd | refine ws ‹_› ?_) | exact HB.out))⟩)
                    ·skip
                     refine box_step ?hg (N := 5) ?hd (cs := #[.int .i64 0, .int .i64 0, .int .i64 0, .int .i64 0, .int .i64 0, .int .i64 0, .int .i64 0, .int .i64 0]) (t := 37) ?hr ?_; (case hd => rfl); (case hg => rfl); (case hr => first | (go_simp; done) | (go_simp; rfl))
                     intro gb220 hg w26 hbox hb
                     have HS0_ := (hb.cell (World.block_lt_of_cell? _ _ (hHeld.1))).trans (hHeld.1)
                     have HS1_ := (hb.cell (World.block_lt_of_cell? _ _ (hHeld.2.1))).trans (hHeld.2.1)
                     have HS2_ := (hb.cell (World.block_lt_of_cell? _ _ (hHeld.2.2.1))).trans (hHeld.2.2.1)
                     have HS3_ := (hb.cell (World.block_lt_of_cell? _ _ (hHeld.2.2.2.1))).trans (hHeld.2.2.2.1)
                     have HS4_ := (hb.cell (World.block_lt_of_cell? _ _ (hHeld.2.2.2.2.1))).trans (hHeld.2.2.2.2.1)
                     have HS5_ := (hb.cell (World.block_lt_of_cell? _ _ (hHeld.2.2.2.2.2.1))).trans (hHeld.2.2.2.2.2.1)
                     have HS6_ := (hb.cell (World.block_lt_of_cell? _ _ (hHeld.2.2.2.2.2.2))).trans (hHeld.2.2.2.2.2.2)
                     replace HO205 := az (Kd.R_below (by (with_reducible repeat (first | apply Kd.R_alloc | apply Kd.R_drewN | apply Kd.R_drew)); exact HO205.out) hb)
                     have BK220 := az (hbox)
                     have GW220 := az ((by rw [hg]; exact (below_size (by repeat (first | (with_reducible first | exact HB.out | apply wa | apply wn | apply wd | refine ws ‹_› ?_) | exact HB.out))) : w.heap.size ≤ gb220))
                     have GE220 := GW220
                     replace HB := az (below_step (by repeat (first | (with_reducible first | exact HB.out | apply wa | apply wn | apply wd | refine ws ‹_› ?_) | exact HB.out)) hb)
                     obtain ⟨NB202_220, NB220_202⟩ := nb BK202 hg (fun h => by (with_reducible repeat (first | apply bn | apply bd | apply ba)); exact h)
                     replace BK202 := bb BK202 (fun h => by (with_reducible repeat (first | apply bn | apply bd | apply ba)); exact h) hb
                     clear hb hbox hg
                     refine hK.out _ _ ⟨HS0_, HS1_, HS2_, HS3_, HS4_, HS5_, HS6_⟩ (fun hHeld => ?_)
                     clear hK K
                     refine norm_ (a' := ?_) ?_ ?_
                     rotate_left
                     ·show Act.put _ (some 5) _ = _
                      simp only [Act.put, List.setIfInBounds_toArray, List.set_cons_zero, List.set_cons_succ, i64_w, i32_w]
                      rfl
                     exact norm_ (by first | (simp only [putAll, Act.put, List.setIfInBounds_toArray, List.set_cons_zero, List.set_cons_succ]; done) | (simp only [putAll, Act.put, List.setIfInBounds_toArray, List.set_cons_zero, List.set_cons_succ]; rfl)) (hJ3_7_11_29 (gb220) _ ⟨hHeld, (by (with_reducible repeat (first | apply Kd.R_alloc | apply Kd.R_drewN | apply Kd.R_drew)); exact HO205.out), (by (with_reducible repeat (first | apply bn | apply bd | apply ba)); exact BK202.out), (by (with_reducible repeat (first | apply bn | apply bd | apply ba)); exact BK220.out), GW220.out, GE220.out, NB202_220.out, NB220_202.out, (by repeat (first | (with_reducible first | exact HB.out | apply wa | apply wn | apply wd | refine ws ‹_› ?_) | exact HB.out))⟩)
                  ·skip
                   rintro gb220 w26 ⟨hS_, h0_, h1_, h2_, h3_, h4_, h5_, h6_, h7_⟩
                   replace HO205 : Aside0 (Kd.R Kd.string 9 w26 w.heap.size (fun _ => True) (.slice (some ad206) t203.length co23) t203) := ⟨h0_⟩
                   replace BK202 : Aside0 (w26.heap[gb202]? = some (.cells #[.int .i64 0, .int .i64 0, .int .i64 0, .int .i64 0, .int .i64 0, .int .i64 0, .int .i64 0, .int .i64 0] 37 (0, 0))) := ⟨h1_⟩
                   have BK220 : Aside0 (w26.heap[gb220]? = some (.cells #[.int .i64 0, .int .i64 0, .int .i64 0, .int .i64 0, .int .i64 0, .int .i64 0, .int .i64 0, .int .i64 0] 37 (0, 0))) := ⟨h2_⟩
                   have GW220 : Aside0 (w.heap.size ≤ gb220) := ⟨h3_⟩
                   have GE220 : Aside0 (w.heap.size ≤ gb220) := ⟨h4_⟩
                   have NB202_220 : Aside0 (gb202 ≠ gb220) := ⟨h5_⟩
                   have NB220_202 : Aside0 (gb220 ≠ gb202) := ⟨h6_⟩
                   replace HB : Aside0 (Below w.heap.size w w26) := ⟨h7_⟩
                   clear h0_ h1_ h2_ h3_ h4_ h5_ h6_ h7_
                   have hHeld : w26.cell? ⟨ad206.block, ad206.off + 1, none⟩ = some (.string (rdOf ByteArray.empty t203 1)) ∧ w26.cell? ⟨ad206.block, ad206.off + 2, none⟩ = some (.string (rdOf ByteArray.empty t203 2)) ∧ w26.cell? ⟨ad206.block, ad206.off + 3, none⟩ = some (.string (rdOf ByteArray.empty t203 3)) ∧ w26.cell? ⟨ad206.block, ad206.off + 4, none⟩ = some (.string (rdOf ByteArray.empty t203 4)) ∧ w26.cell? ⟨ad206.block, ad206.off + 5, none⟩ = some (.string (rdOf ByteArray.empty t203 5)) ∧ w26.cell? ⟨ad206.block, ad206.off + 6, none⟩ = some (.string (rdOf ByteArray.empty t203 6)) ∧ w26.cell? ⟨ad206.block, ad206.off + 7, none⟩ = some (.string (rdOf ByteArray.empty t203 7)) := hS_
                   refine norm_ (a' := ?_) ?_ ?_
                   rotate_left
                   ·simp only [putAll, Act.put, List.setIfInBounds_toArray, List.set_cons_zero, List.set_cons_succ]
                    rfl
                   refine one_ (i := 15) (N := some 32) #[true, true, true, true, true, true, true, true, true, true, true, true, true, true, true, true, true, true, true, false, true, true, true, false, true, true, true, false, false, true, false] rfl rfl (one_of HT_.out (by kernel_rfl)) (by decide) (fun K hK => ?_)
                   refine goes_ Tryd.func55 (by kernel_rfl) rfl #[.string (rdOf ByteArray.empty t203 4)] (by rfl) rfl rfl (by (try simp only [List.map_toArray, List.map_cons, List.map_nil]); first | done | rfl | (simp only [List.length_drop, List.length_take]; rfl)) ?_
                   with_reducible refine (spec_l2Num.calls k (rdOf ByteArray.empty t203 4) t213 _ A14.out).mono ?_
                   rintro e w' ⟨rfl, ⟨nd, rfl⟩⟩
                   refine ⟨_, rfl, ?_⟩
                   refine hK.out _ _ ⟨hHeld.1, hHeld.2.1, hHeld.2.2.1, hHeld.2.2.2.1, hHeld.2.2.2.2.1, hHeld.2.2.2.2.2.1, hHeld.2.2.2.2.2.2⟩ (fun hHeld => ?_)
                   clear hK K
                   refine norm_ (a' := ?_) ?_ ?_
                   rotate_left
                   ·show Act.put _ (some 32) _ = _
                    simp only [Act.put, List.setIfInBounds_toArray, List.set_cons_zero, List.set_cons_succ, i64_w, i32_w]
                    rfl
                   exact norm_ (by first | (simp only [putAll, Act.put, List.setIfInBounds_toArray, List.set_cons_zero, List.set_cons_succ]; done) | (simp only [putAll, Act.put, List.setIfInBounds_toArray, List.set_cons_zero, List.set_cons_succ]; rfl)) (hJ3_7_11_15_29 (gb220) _ ⟨hHeld, (by (with_reducible repeat (first | apply Kd.R_alloc | apply Kd.R_drewN | apply Kd.R_drew)); exact HO205.out), (by (with_reducible repeat (first | apply bn | apply bd | apply ba)); exact BK202.out), (by (with_reducible repeat (first | apply bn | apply bd | apply ba)); exact BK220.out), GW220.out, GE220.out, NB202_220.out, NB220_202.out, (by repeat (first | (with_reducible first | exact HB.out | apply wa | apply wn | apply wd | refine ws ‹_› ?_) | exact HB.out))⟩)
                 ·skip
                  rintro _ w25 ⟨hS_, h0_, h1_, h2_⟩
                  replace HO205 : Aside0 (Kd.R Kd.string 9 w25 w.heap.size (fun _ => True) (.slice (some ad206) t203.length co23) t203) := ⟨h0_⟩
                  replace BK202 : Aside0 (w25.heap[gb202]? = some (.cells #[.int .i64 0, .int .i64 0, .int .i64 0, .int .i64 0, .int .i64 0, .int .i64 0, .int .i64 0, .int .i64 0] 37 (0, 0))) := ⟨h1_⟩
                  replace HB : Aside0 (Below w.heap.size w w25) := ⟨h2_⟩
                  clear h0_ h1_ h2_
                  have hHeld : w25.cell? ⟨ad206.block, ad206.off + 1, none⟩ = some (.string (rdOf ByteArray.empty t203 1)) ∧ w25.cell? ⟨ad206.block, ad206.off + 2, none⟩ = some (.string (rdOf ByteArray.empty t203 2)) ∧ w25.cell? ⟨ad206.block, ad206.off + 3, none⟩ = some (.string (rdOf ByteArray.empty t203 3)) ∧ w25.cell? ⟨ad206.block, ad206.off + 4, none⟩ = some (.string (rdOf ByteArray.empty t203 4)) ∧ w25.cell? ⟨ad206.block, ad206.off + 5, none⟩ = some (.string (rdOf ByteArray.empty t203 5)) ∧ w25.cell? ⟨ad206.block, ad206.off + 6, none⟩ = some (.string (rdOf ByteArray.empty t203 6)) ∧ w25.cell? ⟨ad206.block, ad206.off + 7, none⟩ = some (.string (rdOf ByteArray.empty t203 7)) := hS_
                  refine norm_ (a' := ?_) ?_ ?_
                  rotate_left
                  ·simp only [putAll, Act.put, List.setIfInBounds_toArray, List.set_cons_zero, List.set_cons_succ]
                   rfl
                  refine two_ (i := 19) (j := 29) (Ni := some 36) (Nj := some 5) #[true, true, true, true, true, true, true, true, true, true, true, true, true, true, true, true, true, true, true, true, true, true, true, false, true, true, true, false, false, false, false] #[true, true, true, true, true, true, true, true, true, true, true, true, true, true, true, true, true, true, true, false, true, true, true, false, true, true, true, false, false, true, false] rfl rfl rfl rfl (two_of HT_.out (by kernel_rfl)) (by decide) (by decide) (fun K hK => ?_) (fun K hK => ?_)
                  ·skip
                   refine goes_ Tryd.func55 (by kernel_rfl) rfl #[.string (rdOf ByteArray.empty t203 5)] (by rfl) rfl rfl (by (try simp only [List.map_toArray, List.map_cons, List.map_nil]); first | done | rfl | (simp only [List.length_drop, List.length_take]; rfl)) ?_
                   with_reducible refine (spec_l2Num.calls k (rdOf ByteArray.empty t203 5) t215 _ A16.out).mono ?_
                   rintro e w' ⟨rfl, ⟨nd, rfl⟩⟩
                   refine ⟨_, rfl, ?_⟩
                   refine hK.out _ _ ⟨hHeld.1, hHeld.2.1, hHeld.2.2.1, hHeld.2.2.2.1, hHeld.2.2.2.2.1, hHeld.2.2.2.2.2.1, hHeld.2.2.2.2.2.2⟩ (fun hHeld => ?_)
                   clear hK K
                   refine norm_ (a' := ?_) ?_ ?_
                   rotate_left
                   ·show Act.put _ (some 36) _ = _
                    simp only [Act.put, List.setIfInBounds_toArray, List.set_cons_zero, List.set_cons_succ, i64_w, i32_w]
                    rfl
                   exact norm_ (by first | (simp only [putAll, Act.put, List.setIfInBounds_toArray, List.set_cons_zero, List.set_cons_succ]; done) | (simp only [putAll, Act.put, List.setIfInBounds_toArray, List.set_cons_zero, List.set_cons_succ]; rfl)) (hJ3_7_11_15_19 () _ ⟨hHeld, (by (with_reducible repeat (first | apply Kd.R_alloc | apply Kd.R_drewN | apply Kd.R_drew)); exact HO205.out), (by (with_reducible repeat (first | apply bn | apply bd | apply ba)); exact BK202.out), (by repeat (first | (with_reducible first | exact HB.out | apply wa | apply wn | apply wd | refine ws ‹_› ?_) | exact HB.out))⟩)
                  ·skip
                   refine box_step ?hg (N := 5) ?hd (cs := #[.int .i64 0, .int .i64 0, .int .i64 0, .int .i64 0, .int .i64 0, .int .i64 0, .int .i64 0, .int .i64 0]) (t := 37) ?hr ?_; (case hd => rfl); (case hg => rfl); (case hr => first | (go_simp; done) | (go_simp; rfl))
                   intro gb220 hg w26 hbox hb
                   have HS0_ := (hb.cell (World.block_lt_of_cell? _ _ (hHeld.1))).trans (hHeld.1)
                   have HS1_ := (hb.cell (World.block_lt_of_cell? _ _ (hHeld.2.1))).trans (hHeld.2.1)
                   have HS2_ := (hb.cell (World.block_lt_of_cell? _ _ (hHeld.2.2.1))).trans (hHeld.2.2.1)
                   have HS3_ := (hb.cell (World.block_lt_of_cell? _ _ (hHeld.2.2.2.1))).trans (hHeld.2.2.2.1)
                   have HS4_ := (hb.cell (World.block_lt_of_cell? _ _ (hHeld.2.2.2.2.1))).trans (hHeld.2.2.2.2.1)
                   have HS5_ := (hb.cell (World.block_lt_of_cell? _ _ (hHeld.2.2.2.2.2.1))).trans (hHeld.2.2.2.2.2.1)
                   have HS6_ := (hb.cell (World.block_lt_of_cell? _ _ (hHeld.2.2.2.2.2.2))).trans (hHeld.2.2.2.2.2.2)
                   replace HO205 := az (Kd.R_below (by (with_reducible repeat (first | apply Kd.R_alloc | apply Kd.R_drewN | apply Kd.R_drew)); exact HO205.out) hb)
                   have BK220 := az (hbox)
                   have GW220 := az ((by rw [hg]; exact (below_size (by repeat (first | (with_reducible first | exact HB.out | apply wa | apply wn | apply wd | refine ws ‹_› ?_) | exact HB.out))) : w.heap.size ≤ gb220))
                   have GE220 := GW220
                   replace HB := az (below_step (by repeat (first | (with_reducible first | exact HB.out | apply wa | apply wn | apply wd | refine ws ‹_› ?_) | exact HB.out)) hb)
                   obtain ⟨NB202_220, NB220_202⟩ := nb BK202 hg (fun h => by (with_reducible repeat (first | apply bn | apply bd | apply ba)); exact h)
                   replace BK202 := bb BK202 (fun h => by (with_reducible repeat (first | apply bn | apply bd | apply ba)); exact h) hb
                   clear hb hbox hg
                   refine hK.out _ _ ⟨HS0_, HS1_, HS2_, HS3_, HS4_, HS5_, HS6_⟩ (fun hHeld => ?_)
                   clear hK K
                   refine norm_ (a' := ?_) ?_ ?_
                   rotate_left
                   ·show Act.put _ (some 5) _ = _
                    simp only [Act.put, List.setIfInBounds_toArray, List.set_cons_zero, List.set_cons_succ, i64_w, i32_w]
                    rfl
                   exact norm_ (by first | (simp only [putAll, Act.put, List.setIfInBounds_toArray, List.set_cons_zero, List.set_cons_succ]; done) | (simp only [putAll, Act.put, List.setIfInBounds_toArray, List.set_cons_zero, List.set_cons_succ]; rfl)) (hJ3_7_11_15_29 (gb220) _ ⟨hHeld, (by (with_reducible repeat (first | apply Kd.R_alloc | apply Kd.R_drewN | apply Kd.R_drew)); exact HO205.out), (by (with_reducible repeat (first | apply bn | apply bd | apply ba)); exact BK202.out), (by (with_reducible repeat (first | apply bn | apply bd | apply ba)); exact BK220.out), GW220.out, GE220.out, NB202_220.out, NB220_202.out, (by repeat (first | (with_reducible first | exact HB.out | apply wa | apply wn | apply wd | refine ws ‹_› ?_) | exact HB.out))⟩)
                ·skip
                 rintro gb220 w26 ⟨hS_, h0_, h1_, h2_, h3_, h4_, h5_, h6_, h7_⟩
                 replace HO205 : Aside0 (Kd.R Kd.string 9 w26 w.heap.size (fun _ => True) (.slice (some ad206) t203.length co23) t203) := ⟨h0_⟩
                 replace BK202 : Aside0 (w26.heap[gb202]? = some (.cells #[.int .i64 0, .int .i64 0, .int .i64 0, .int .i64 0, .int .i64 0, .int .i64 0, .int .i64 0, .int .i64 0] 37 (0, 0))) := ⟨h1_⟩
                 have BK220 : Aside0 (w26.heap[gb220]? = some (.cells #[.int .i64 0, .int .i64 0, .int .i64 0, .int .i64 0, .int .i64 0, .int .i64 0, .int .i64 0, .int .i64 0] 37 (0, 0))) := ⟨h2_⟩
                 have GW220 : Aside0 (w.heap.size ≤ gb220) := ⟨h3_⟩
                 have GE220 : Aside0 (w.heap.size ≤ gb220) := ⟨h4_⟩
                 have NB202_220 : Aside0 (gb202 ≠ gb220) := ⟨h5_⟩
                 have NB220_202 : Aside0 (gb220 ≠ gb202) := ⟨h6_⟩
                 replace HB : Aside0 (Below w.heap.size w w26) := ⟨h7_⟩
                 clear h0_ h1_ h2_ h3_ h4_ h5_ h6_ h7_
                 have hHeld : w26.cell? ⟨ad206.block, ad206.off + 1, none⟩ = some (.string (rdOf ByteArray.empty t203 1)) ∧ w26.cell? ⟨ad206.block, ad206.off + 2, none⟩ = some (.string (rdOf ByteArray.empty t203 2)) ∧ w26.cell? ⟨ad206.block, ad206.off + 3, none⟩ = some (.string (rdOf ByteArray.empty t203 3)) ∧ w26.cell? ⟨ad206.block, ad206.off + 4, none⟩ = some (.string (rdOf ByteArray.empty t203 4)) ∧ w26.cell? ⟨ad206.block, ad206.off + 5, none⟩ = some (.string (rdOf ByteArray.empty t203 5)) ∧ w26.cell? ⟨ad206.block, ad206.off + 6, none⟩ = some (.string (rdOf ByteArray.empty t203 6)) ∧ w26.cell? ⟨ad206.block, ad206.off + 7, none⟩ = some (.string (rdOf ByteArray.empty t203 7)) := hS_
                 refine norm_ (a' := ?_) ?_ ?_
                 rotate_left
                 ·simp only [putAll, Act.put, List.setIfInBounds_toArray, List.set_cons_zero, List.set_cons_succ]
                  rfl
                 refine one_ (i := 19) (N := some 36) #[true, true, true, true, true, true, true, true, true, true, true, true, true, true, true, true, true, true, true, true, true, true, true, false, true, true, true, false, false, true, false] rfl rfl (one_of HT_.out (by kernel_rfl)) (by decide) (fun K hK => ?_)
                 refine goes_ Tryd.func55 (by kernel_rfl) rfl #[.string (rdOf ByteArray.empty t203 5)] (by rfl) rfl rfl (by (try simp only [List.map_toArray, List.map_cons, List.map_nil]); first | done | rfl | (simp only [List.length_drop, List.length_take]; rfl)) ?_
                 with_reducible refine (spec_l2Num.calls k (rdOf ByteArray.empty t203 5) t215 _ A16.out).mono ?_
                 rintro e w' ⟨rfl, ⟨nd, rfl⟩⟩
                 refine ⟨_, rfl, ?_⟩
                 refine hK.out _ _ ⟨hHeld.1, hHeld.2.1, hHeld.2.2.1, hHeld.2.2.2.1, hHeld.2.2.2.2.1, hHeld.2.2.2.2.2.1, hHeld.2.2.2.2.2.2⟩ (fun hHeld => ?_)
                 clear hK K
                 refine norm_ (a' := ?_) ?_ ?_
                 rotate_left
                 ·show Act.put _ (some 36) _ = _
                  simp only [Act.put, List.setIfInBounds_toArray, List.set_cons_zero, List.set_cons_succ, i64_w, i32_w]
                  rfl
                 exact norm_ (by first | (simp only [putAll, Act.put, List.setIfInBounds_toArray, List.set_cons_zero, List.set_cons_succ]; done) | (simp only [putAll, Act.put, List.setIfInBounds_toArray, List.set_cons_zero, List.set_cons_succ]; rfl)) (hJ3_7_11_15_19_29 (gb220) _ ⟨hHeld, (by (with_reducible repeat (first | apply Kd.R_alloc | apply Kd.R_drewN | apply Kd.R_drew)); exact HO205.out), (by (with_reducible repeat (first | apply bn | apply bd | apply ba)); exact BK202.out), (by (with_reducible repeat (first | apply bn | apply bd | apply ba)); exact BK220.out), GW220.out, GE220.out, NB202_220.out, NB220_202.out, (by repeat (first | (with_reducible first | exact HB.out | apply wa | apply wn | apply wd | refine ws ‹_› ?_) | exact HB.out))⟩)
               ·skip
                rintro _ w25 ⟨hS_, h0_, h1_, h2_⟩
                replace HO205 : Aside0 (Kd.R Kd.string 9 w25 w.heap.size (fun _ => True) (.slice (some ad206) t203.length co23) t203) := ⟨h0_⟩
                replace BK202 : Aside0 (w25.heap[gb202]? = some (.cells #[.int .i64 0, .int .i64 0, .int .i64 0, .int .i64 0, .int .i64 0, .int .i64 0, .int .i64 0, .int .i64 0] 37 (0, 0))) := ⟨h1_⟩
                replace HB : Aside0 (Below w.heap.size w w25) := ⟨h2_⟩
                clear h0_ h1_ h2_
                have hHeld : w25.cell? ⟨ad206.block, ad206.off + 1, none⟩ = some (.string (rdOf ByteArray.empty t203 1)) ∧ w25.cell? ⟨ad206.block, ad206.off + 2, none⟩ = some (.string (rdOf ByteArray.empty t203 2)) ∧ w25.cell? ⟨ad206.block, ad206.off + 3, none⟩ = some (.string (rdOf ByteArray.empty t203 3)) ∧ w25.cell? ⟨ad206.block, ad206.off + 4, none⟩ = some (.string (rdOf ByteArray.empty t203 4)) ∧ w25.cell? ⟨ad206.block, ad206.off + 5, none⟩ = some (.string (rdOf ByteArray.empty t203 5)) ∧ w25.cell? ⟨ad206.block, ad206.off + 6, none⟩ = some (.string (rdOf ByteArray.empty t203 6)) ∧ w25.cell? ⟨ad206.block, ad206.off + 7, none⟩ = some (.string (rdOf ByteArray.empty t203 7)) := hS_
                refine norm_ (a' := ?_) ?_ ?_
                rotate_left
                ·simp only [putAll, Act.put, List.setIfInBounds_toArray, List.set_cons_zero, List.set_cons_succ]
                 rfl
                refine two_ (i := 23) (j := 29) (Ni := some 40) (Nj := some 5) #[true, true, true, true, true, true, true, true, true, true, true, true, true, true, true, true, true, true, true, true, true, true, true, true, true, true, true, false, false, false, false] #[true, true, true, true, true, true, true, true, true, true, true, true, true, true, true, true, true, true, true, true, true, true, true, false, true, true, true, false, false, true, false] rfl rfl rfl rfl (two_of HT_.out (by kernel_rfl)) (by decide) (by decide) (fun K hK => ?_) (fun K hK => ?_)
                ·skip
                 refine goes_ Tryd.func55 (by kernel_rfl) rfl #[.string (rdOf ByteArray.empty t203 6)] (by rfl) rfl rfl (by (try simp only [List.map_toArray, List.map_cons, List.map_nil]); first | done | rfl | (simp only [List.length_drop, List.length_take]; rfl)) ?_
                 with_reducible refine (spec_l2Num.calls k (rdOf ByteArray.empty t203 6) t217 _ A18.out).mono ?_
                 rintro e w' ⟨rfl, ⟨nd, rfl⟩⟩
                 refine ⟨_, rfl, ?_⟩
                 refine hK.out _ _ ⟨hHeld.1, hHeld.2.1, hHeld.2.2.1, hHeld.2.2.2.1, hHeld.2.2.2.2.1, hHeld.2.2.2.2.2.1, hHeld.2.2.2.2.2.2⟩ (fun hHeld => ?_)
                 clear hK K
                 refine norm_ (a' := ?_) ?_ ?_
                 rotate_left
                 ·show Act.put _ (some 40) _ = _
                  simp only [Act.put, List.setIfInBounds_toArray, List.set_cons_zero, List.set_cons_succ, i64_w, i32_w]
                  rfl
                 exact norm_ (by first | (simp only [putAll, Act.put, List.setIfInBounds_toArray, List.set_cons_zero, List.set_cons_succ]; done) | (simp only [putAll, Act.put, List.setIfInBounds_toArray, List.set_cons_zero, List.set_cons_succ]; rfl)) (hJ3_7_11_15_19_23 () _ ⟨hHeld, (by (with_reducible repeat (first | apply Kd.R_alloc | apply Kd.R_drewN | apply Kd.R_drew)); exact HO205.out), (by (with_reducible repeat (first | apply bn | apply bd | apply ba)); exact BK202.out), (by repeat (first | (with_reducible first | exact HB.out | apply wa | apply wn | apply wd | refine ws ‹_› ?_) | exact HB.out))⟩)
                ·skip
                 refine box_step ?hg (N := 5) ?hd (cs := #[.int .i64 0, .int .i64 0, .int .i64 0, .int .i64 0, .int .i64 0, .int .i64 0, .int .i64 0, .int .i64 0]) (t := 37) ?hr ?_; (case hd => rfl); (case hg => rfl); (case hr => first | (go_simp; done) | (go_simp; rfl))
                 intro gb220 hg w26 hbox hb
                 have HS0_ := (hb.cell (World.block_lt_of_cell? _ _ (hHeld.1))).trans (hHeld.1)
                 have HS1_ := (hb.cell (World.block_lt_of_cell? _ _ (hHeld.2.1))).trans (hHeld.2.1)
                 have HS2_ := (hb.cell (World.block_lt_of_cell? _ _ (hHeld.2.2.1))).trans (hHeld.2.2.1)
                 have HS3_ := (hb.cell (World.block_lt_of_cell? _ _ (hHeld.2.2.2.1))).trans (hHeld.2.2.2.1)
                 have HS4_ := (hb.cell (World.block_lt_of_cell? _ _ (hHeld.2.2.2.2.1))).trans (hHeld.2.2.2.2.1)
                 have HS5_ := (hb.cell (World.block_lt_of_cell? _ _ (hHeld.2.2.2.2.2.1))).trans (hHeld.2.2.2.2.2.1)
                 have HS6_ := (hb.cell (World.block_lt_of_cell? _ _ (hHeld.2.2.2.2.2.2))).trans (hHeld.2.2.2.2.2.2)
                 replace HO205 := az (Kd.R_below (by (with_reducible repeat (first | apply Kd.R_alloc | apply Kd.R_drewN | apply Kd.R_drew)); exact HO205.out) hb)
                 have BK220 := az (hbox)
                 have GW220 := az ((by rw [hg]; exact (below_size (by repeat (first | (with_reducible first | exact HB.out | apply wa | apply wn | apply wd | refine ws ‹_› ?_) | exact HB.out))) : w.heap.size ≤ gb220))
                 have GE220 := GW220
                 replace HB := az (below_step (by repeat (first | (with_reducible first | exact HB.out | apply wa | apply wn | apply wd | refine ws ‹_› ?_) | exact HB.out)) hb)
                 obtain ⟨NB202_220, NB220_202⟩ := nb BK202 hg (fun h => by (with_reducible repeat (first | apply bn | apply bd | apply ba)); exact h)
                 replace BK202 := bb BK202 (fun h => by (with_reducible repeat (first | apply bn | apply bd | apply ba)); exact h) hb
                 clear hb hbox hg
                 refine hK.out _ _ ⟨HS0_, HS1_, HS2_, HS3_, HS4_, HS5_, HS6_⟩ (fun hHeld => ?_)
                 clear hK K
                 refine norm_ (a' := ?_) ?_ ?_
                 rotate_left
                 ·show Act.put _ (some 5) _ = _
                  simp only [Act.put, List.setIfInBounds_toArray, List.set_cons_zero, List.set_cons_succ, i64_w, i32_w]
                  rfl
                 exact norm_ (by first | (simp only [putAll, Act.put, List.setIfInBounds_toArray, List.set_cons_zero, List.set_cons_succ]; done) | (simp only [putAll, Act.put, List.setIfInBounds_toArray, List.set_cons_zero, List.set_cons_succ]; rfl)) (hJ3_7_11_15_19_29 (gb220) _ ⟨hHeld, (by (with_reducible repeat (first | apply Kd.R_alloc | apply Kd.R_drewN | apply Kd.R_drew)); exact HO205.out), (by (with_reducible repeat (first | apply bn | apply bd | apply ba)); exact BK202.out), (by (with_reducible repeat (first | apply bn | apply bd | apply ba)); exact BK220.out), GW220.out, GE220.out, NB202_220.out, NB220_202.out, (by repeat (first | (with_reducible first | exact HB.out | apply wa | apply wn | apply wd | refine ws ‹_› ?_) | exact HB.out))⟩)
              ·skip
               rintro gb220 w26 ⟨hS_, h0_, h1_, h2_, h3_, h4_, h5_, h6_, h7_⟩
               replace HO205 : Aside0 (Kd.R Kd.string 9 w26 w.heap.size (fun _ => True) (.slice (some ad206) t203.length co23) t203) := ⟨h0_⟩
               replace BK202 : Aside0 (w26.heap[gb202]? = some (.cells #[.int .i64 0, .int .i64 0, .int .i64 0, .int .i64 0, .int .i64 0, .int .i64 0, .int .i64 0, .int .i64 0] 37 (0, 0))) := ⟨h1_⟩
               have BK220 : Aside0 (w26.heap[gb220]? = some (.cells #[.int .i64 0, .int .i64 0, .int .i64 0, .int .i64 0, .int .i64 0, .int .i64 0, .int .i64 0, .int .i64 0] 37 (0, 0))) := ⟨h2_⟩
               have GW220 : Aside0 (w.heap.size ≤ gb220) := ⟨h3_⟩
               have GE220 : Aside0 (w.heap.size ≤ gb220) := ⟨h4_⟩
               have NB202_220 : Aside0 (gb202 ≠ gb220) := ⟨h5_⟩
               have NB220_202 : Aside0 (gb220 ≠ gb202) := ⟨h6_⟩
               replace HB : Aside0 (Below w.heap.size w w26) := ⟨h7_⟩
               clear h0_ h1_ h2_ h3_ h4_ h5_ h6_ h7_
               have hHeld : w26.cell? ⟨ad206.block, ad206.off + 1, none⟩ = some (.string (rdOf ByteArray.empty t203 1)) ∧ w26.cell? ⟨ad206.block, ad206.off + 2, none⟩ = some (.string (rdOf ByteArray.empty t203 2)) ∧ w26.cell? ⟨ad206.block, ad206.off + 3, none⟩ = some (.string (rdOf ByteArray.empty t203 3)) ∧ w26.cell? ⟨ad206.block, ad206.off + 4, none⟩ = some (.string (rdOf ByteArray.empty t203 4)) ∧ w26.cell? ⟨ad206.block, ad206.off + 5, none⟩ = some (.string (rdOf ByteArray.empty t203 5)) ∧ w26.cell? ⟨ad206.block, ad206.off + 6, none⟩ = some (.string (rdOf ByteArray.empty t203 6)) ∧ w26.cell? ⟨ad206.block, ad206.off + 7, none⟩ = some (.string (rdOf ByteArray.empty t203 7)) := hS_
               refine norm_ (a' := ?_) ?_ ?_
               rotate_left
               ·simp only [putAll, Act.put, List.setIfInBounds_toArray, List.set_cons_zero, List.set_cons_succ]
                rfl
               refine one_ (i := 23) (N := some 40) #[true, true, true, true, true, true, true, true, true, true, true, true, true, true, true, true, true, true, true, true, true, true, true, true, true, true, true, false, false, true, false] rfl rfl (one_of HT_.out (by kernel_rfl)) (by decide) (fun K hK => ?_)
               refine goes_ Tryd.func55 (by kernel_rfl) rfl #[.string (rdOf ByteArray.empty t203 6)] (by rfl) rfl rfl (by (try simp only [List.map_toArray, List.map_cons, List.map_nil]); first | done | rfl | (simp only [List.length_drop, List.length_take]; rfl)) ?_
               with_reducible refine (spec_l2Num.calls k (rdOf ByteArray.empty t203 6) t217 _ A18.out).mono ?_
               rintro e w' ⟨rfl, ⟨nd, rfl⟩⟩
               refine ⟨_, rfl, ?_⟩
               refine hK.out _ _ ⟨hHeld.1, hHeld.2.1, hHeld.2.2.1, hHeld.2.2.2.1, hHeld.2.2.2.2.1, hHeld.2.2.2.2.2.1, hHeld.2.2.2.2.2.2⟩ (fun hHeld => ?_)
               clear hK K
               refine norm_ (a' := ?_) ?_ ?_
               rotate_left
               ·show Act.put _ (some 40) _ = _
                simp only [Act.put, List.setIfInBounds_toArray, List.set_cons_zero, List.set_cons_succ, i64_w, i32_w]
                rfl
               exact norm_ (by first | (simp only [putAll, Act.put, List.setIfInBounds_toArray, List.set_cons_zero, List.set_cons_succ]; done) | (simp only [putAll, Act.put, List.setIfInBounds_toArray, List.set_cons_zero, List.set_cons_succ]; rfl)) (hJ3_7_11_15_19_23_29 (gb220) _ ⟨hHeld, (by (with_reducible repeat (first | apply Kd.R_alloc | apply Kd.R_drewN | apply Kd.R_drew)); exact HO205.out), (by (with_reducible repeat (first | apply bn | apply bd | apply ba)); exact BK202.out), (by (with_reducible repeat (first | apply bn | apply bd | apply ba)); exact BK220.out), GW220.out, GE220.out, NB202_220.out, NB220_202.out, (by repeat (first | (with_reducible first | exact HB.out | apply wa | apply wn | apply wd | refine ws ‹_› ?_) | exact HB.out))⟩)
             ·skip
              rintro _ w25 ⟨hS_, h0_, h1_, h2_⟩
              replace HO205 : Aside0 (Kd.R Kd.string 9 w25 w.heap.size (fun _ => True) (.slice (some ad206) t203.length co23) t203) := ⟨h0_⟩
              replace BK202 : Aside0 (w25.heap[gb202]? = some (.cells #[.int .i64 0, .int .i64 0, .int .i64 0, .int .i64 0, .int .i64 0, .int .i64 0, .int .i64 0, .int .i64 0] 37 (0, 0))) := ⟨h1_⟩
              replace HB : Aside0 (Below w.heap.size w w25) := ⟨h2_⟩
              clear h0_ h1_ h2_
              have hHeld : w25.cell? ⟨ad206.block, ad206.off + 1, none⟩ = some (.string (rdOf ByteArray.empty t203 1)) ∧ w25.cell? ⟨ad206.block, ad206.off + 2, none⟩ = some (.string (rdOf ByteArray.empty t203 2)) ∧ w25.cell? ⟨ad206.block, ad206.off + 3, none⟩ = some (.string (rdOf ByteArray.empty t203 3)) ∧ w25.cell? ⟨ad206.block, ad206.off + 4, none⟩ = some (.string (rdOf ByteArray.empty t203 4)) ∧ w25.cell? ⟨ad206.block, ad206.off + 5, none⟩ = some (.string (rdOf ByteArray.empty t203 5)) ∧ w25.cell? ⟨ad206.block, ad206.off + 6, none⟩ = some (.string (rdOf ByteArray.empty t203 6)) ∧ w25.cell? ⟨ad206.block, ad206.off + 7, none⟩ = some (.string (rdOf ByteArray.empty t203 7)) := hS_
              refine norm_ (a' := ?_) ?_ ?_
              rotate_left
              ·simp only [putAll, Act.put, List.setIfInBounds_toArray, List.set_cons_zero, List.set_cons_succ]
               rfl
              refine two_ (i := 27) (j := 29) (Ni := some 44) (Nj := some 5) #[true, true, true, true, true, true, true, true, true, true, true, true, true, true, true, true, true, true, true, true, true, true, true, true, true, true, true, true, false, false, false] #[true, true, true, true, true, true, true, true, true, true, true, true, true, true, true, true, true, true, true, true, true, true, true, true, true, true, true, false, false, true, false] rfl rfl rfl rfl (two_of HT_.out (by kernel_rfl)) (by decide) (by decide) (fun K hK => ?_) (fun K hK => ?_)
              ·skip
               refine goes_ Tryd.func55 (by kernel_rfl) rfl #[.string (rdOf ByteArray.empty t203 7)] (by rfl) rfl rfl (by (try simp only [List.map_toArray, List.map_cons, List.map_nil]); first | done | rfl | (simp only [List.length_drop, List.length_take]; rfl)) ?_
               with_reducible refine (spec_l2Num.calls k (rdOf ByteArray.empty t203 7) t219 _ A20.out).mono ?_
               rintro e w' ⟨rfl, ⟨nd, rfl⟩⟩
               refine ⟨_, rfl, ?_⟩
               refine hK.out _ _ ⟨hHeld.1, hHeld.2.1, hHeld.2.2.1, hHeld.2.2.2.1, hHeld.2.2.2.2.1, hHeld.2.2.2.2.2.1, hHeld.2.2.2.2.2.2⟩ (fun hHeld => ?_)
               clear hK K
               refine norm_ (a' := ?_) ?_ ?_
               rotate_left
               ·show Act.put _ (some 44) _ = _
                simp only [Act.put, List.setIfInBounds_toArray, List.set_cons_zero, List.set_cons_succ, i64_w, i32_w]
                rfl
               refine pure_ (i := 28) (N := some 45) (v := ?_) (a' := ?_) #[true, true, true, true, true, true, true, true, true, true, true, true, true, true, true, true, true, true, true, true, true, true, true, true, true, true, true, true, true, false, false] rfl rfl (any_of HT_.out (by kernel_rfl)) (fun _ _ _ h => h) (Or.inl ⟨by rfl, ?_⟩) ?_ ?_
               rotate_left
               ·intro w'
                go_simp
                with_reducible rfl
               rotate_left
               ·simp only [Act.put, List.setIfInBounds_toArray, List.set_cons_zero, List.set_cons_succ, i64_w, i32_w]
                rfl
               exact norm_ (by first | (simp only [putAll, Act.put, List.setIfInBounds_toArray, List.set_cons_zero, List.set_cons_succ]; done) | (simp only [putAll, Act.put, List.setIfInBounds_toArray, List.set_cons_zero, List.set_cons_succ]; rfl)) (hJ3_7_11_15_19_23_27 () _ ⟨hHeld, (by (with_reducible repeat (first | apply Kd.R_alloc | apply Kd.R_drewN | apply Kd.R_drew)); exact HO205.out), (by (with_reducible repeat (first | apply bn | apply bd | apply ba)); exact BK202.out), (by repeat (first | (with_reducible first | exact HB.out | apply wa | apply wn | apply wd | refine ws ‹_› ?_) | exact HB.out))⟩)
              ·skip
               refine box_step ?hg (N := 5) ?hd (cs := #[.int .i64 0, .int .i64 0, .int .i64 0, .int .i64 0, .int .i64 0, .int .i64 0, .int .i64 0, .int .i64 0]) (t := 37) ?hr ?_; (case hd => rfl); (case hg => rfl); (case hr => first | (go_simp; done) | (go_simp; rfl))
               intro gb220 hg w26 hbox hb
               have HS0_ := (hb.cell (World.block_lt_of_cell? _ _ (hHeld.1))).trans (hHeld.1)
               have HS1_ := (hb.cell (World.block_lt_of_cell? _ _ (hHeld.2.1))).trans (hHeld.2.1)
               have HS2_ := (hb.cell (World.block_lt_of_cell? _ _ (hHeld.2.2.1))).trans (hHeld.2.2.1)
               have HS3_ := (hb.cell (World.block_lt_of_cell? _ _ (hHeld.2.2.2.1))).trans (hHeld.2.2.2.1)
               have HS4_ := (hb.cell (World.block_lt_of_cell? _ _ (hHeld.2.2.2.2.1))).trans (hHeld.2.2.2.2.1)
               have HS5_ := (hb.cell (World.block_lt_of_cell? _ _ (hHeld.2.2.2.2.2.1))).trans (hHeld.2.2.2.2.2.1)
               have HS6_ := (hb.cell (World.block_lt_of_cell? _ _ (hHeld.2.2.2.2.2.2))).trans (hHeld.2.2.2.2.2.2)
               replace HO205 := az (Kd.R_below (by (with_reducible repeat (first | apply Kd.R_alloc | apply Kd.R_drewN | apply Kd.R_drew)); exact HO205.out) hb)
               have BK220 := az (hbox)
               have GW220 := az ((by rw [hg]; exact (below_size (by repeat (first | (with_reducible first | exact HB.out | apply wa | apply wn | apply wd | refine ws ‹_› ?_) | exact HB.out))) : w.heap.size ≤ gb220))
               have GE220 := GW220
               replace HB := az (below_step (by repeat (first | (with_reducible first | exact HB.out | apply wa | apply wn | apply wd | refine ws ‹_› ?_) | exact HB.out)) hb)
               obtain ⟨NB202_220, NB220_202⟩ := nb BK202 hg (fun h => by (with_reducible repeat (first | apply bn | apply bd | apply ba)); exact h)
               replace BK202 := bb BK202 (fun h => by (with_reducible repeat (first | apply bn | apply bd | apply ba)); exact h) hb
               clear hb hbox hg
               refine hK.out _ _ ⟨HS0_, HS1_, HS2_, HS3_, HS4_, HS5_, HS6_⟩ (fun hHeld => ?_)
               clear hK K
               refine norm_ (a' := ?_) ?_ ?_
               rotate_left
               ·show Act.put _ (some 5) _ = _
                simp only [Act.put, List.setIfInBounds_toArray, List.set_cons_zero, List.set_cons_succ, i64_w, i32_w]
                rfl
               exact norm_ (by first | (simp only [putAll, Act.put, List.setIfInBounds_toArray, List.set_cons_zero, List.set_cons_succ]; done) | (simp only [putAll, Act.put, List.setIfInBounds_toArray, List.set_cons_zero, List.set_cons_succ]; rfl)) (hJ3_7_11_15_19_23_29 (gb220) _ ⟨hHeld, (by (with_reducible repeat (first | apply Kd.R_alloc | apply Kd.R_drewN | apply Kd.R_drew)); exact HO205.out), (by (with_reducible repeat (first | apply bn | apply bd | apply ba)); exact BK202.out), (by (with_reducible repeat (first | apply bn | apply bd | apply ba)); exact BK220.out), GW220.out, GE220.out, NB202_220.out, NB220_202.out, (by repeat (first | (with_reducible first | exact HB.out | apply wa | apply wn | apply wd | refine ws ‹_› ?_) | exact HB.out))⟩)
            ·skip
             rintro gb220 w26 ⟨hS_, h0_, h1_, h2_, h3_, h4_, h5_, h6_, h7_⟩
             replace HO205 : Aside0 (Kd.R Kd.string 9 w26 w.heap.size (fun _ => True) (.slice (some ad206) t203.length co23) t203) := ⟨h0_⟩
             replace BK202 : Aside0 (w26.heap[gb202]? = some (.cells #[.int .i64 0, .int .i64 0, .int .i64 0, .int .i64 0, .int .i64 0, .int .i64 0, .int .i64 0, .int .i64 0] 37 (0, 0))) := ⟨h1_⟩
             have BK220 : Aside0 (w26.heap[gb220]? = some (.cells #[.int .i64 0, .int .i64 0, .int .i64 0, .int .i64 0, .int .i64 0, .int .i64 0, .int .i64 0, .int .i64 0] 37 (0, 0))) := ⟨h2_⟩
             have GW220 : Aside0 (w.heap.size ≤ gb220) := ⟨h3_⟩
             have GE220 : Aside0 (w.heap.size ≤ gb220) := ⟨h4_⟩
             have NB202_220 : Aside0 (gb202 ≠ gb220) := ⟨h5_⟩
             have NB220_202 : Aside0 (gb220 ≠ gb202) := ⟨h6_⟩
             replace HB : Aside0 (Below w.heap.size w w26) := ⟨h7_⟩
             clear h0_ h1_ h2_ h3_ h4_ h5_ h6_ h7_
             have hHeld : w26.cell? ⟨ad206.block, ad206.off + 1, none⟩ = some (.string (rdOf ByteArray.empty t203 1)) ∧ w26.cell? ⟨ad206.block, ad206.off + 2, none⟩ = some (.string (rdOf ByteArray.empty t203 2)) ∧ w26.cell? ⟨ad206.block, ad206.off + 3, none⟩ = some (.string (rdOf ByteArray.empty t203 3)) ∧ w26.cell? ⟨ad206.block, ad206.off + 4, none⟩ = some (.string (rdOf ByteArray.empty t203 4)) ∧ w26.cell? ⟨ad206.block, ad206.off + 5, none⟩ = some (.string (rdOf ByteArray.empty t203 5)) ∧ w26.cell? ⟨ad206.block, ad206.off + 6, none⟩ = some (.string (rdOf ByteArray.empty t203 6)) ∧ w26.cell? ⟨ad206.block, ad206.off + 7, none⟩ = some (.string (rdOf ByteArray.empty t203 7)) := hS_
             refine norm_ (a' := ?_) ?_ ?_
             rotate_left
             ·simp only [putAll, Act.put, List.setIfInBounds_toArray, List.set_cons_zero, List.set_cons_succ]
              rfl
             refine one_ (i := 27) (N := some 44) #[true, true, true, true, true, true, true, true, true, true, true, true, true, true, true, true, true, true, true, true, true, true, true, true, true, true, true, true, false, true, false] rfl rfl (one_of HT_.out (by kernel_rfl)) (by decide) (fun K hK => ?_)
             refine goes_ Tryd.func55 (by kernel_rfl) rfl #[.string (rdOf ByteArray.empty t203 7)] (by rfl) rfl rfl (by (try simp only [List.map_toArray, List.map_cons, List.map_nil]); first | done | rfl | (simp only [List.length_drop, List.length_take]; rfl)) ?_
             with_reducible refine (spec_l2Num.calls k (rdOf ByteArray.empty t203 7) t219 _ A20.out).mono ?_
             rintro e w' ⟨rfl, ⟨nd, rfl⟩⟩
             refine ⟨_, rfl, ?_⟩
             refine hK.out _ _ ⟨hHeld.1, hHeld.2.1, hHeld.2.2.1, hHeld.2.2.2.1, hHeld.2.2.2.2.1, hHeld.2.2.2.2.2.1, hHeld.2.2.2.2.2.2⟩ (fun hHeld => ?_)
             clear hK K
             refine norm_ (a' := ?_) ?_ ?_
             rotate_left
             ·show Act.put _ (some 44) _ = _
              simp only [Act.put, List.setIfInBounds_toArray, List.set_cons_zero, List.set_cons_succ, i64_w, i32_w]
              rfl
             refine pure_ (i := 28) (N := some 45) (v := ?_) (a' := ?_) #[true, true, true, true, true, true, true, true, true, true, true, true, true, true, true, true, true, true, true, true, true, true, true, true, true, true, true, true, true, true, false] rfl rfl (any_of HT_.out (by kernel_rfl)) (fun _ _ _ h => h) (Or.inl ⟨by rfl, ?_⟩) ?_ ?_
             rotate_left
             ·intro w'
              go_simp
              with_reducible rfl
             rotate_left
             ·simp only [Act.put, List.setIfInBounds_toArray, List.set_cons_zero, List.set_cons_succ, i64_w, i32_w]
              rfl
             exact norm_ (by first | (simp only [putAll, Act.put, List.setIfInBounds_toArray, List.set_cons_zero, List.set_cons_succ]; done) | (simp only [putAll, Act.put, List.setIfInBounds_toArray, List.set_cons_zero, List.set_cons_succ]; rfl)) (hJ3_7_11_15_19_23_27_29 (gb220) _ ⟨hHeld, (by (with_reducible repeat (first | apply Kd.R_alloc | apply Kd.R_drewN | apply Kd.R_drew)); exact HO205.out), (by (with_reducible repeat (first | apply bn | apply bd | apply ba)); exact BK202.out), (by (with_reducible repeat (first | apply bn | apply bd | apply ba)); exact BK220.out), GW220.out, GE220.out, NB202_220.out, NB220_202.out, (by repeat (first | (with_reducible first | exact HB.out | apply wa | apply wn | apply wd | refine ws ‹_› ?_) | exact HB.out))⟩)
           ·skip
            rintro _ w25 ⟨hS_, h0_, h1_, h2_⟩
            replace HO205 : Aside0 (Kd.R Kd.string 9 w25 w.heap.size (fun _ => True) (.slice (some ad206) t203.length co23) t203) := ⟨h0_⟩
            replace BK202 : Aside0 (w25.heap[gb202]? = some (.cells #[.int .i64 0, .int .i64 0, .int .i64 0, .int .i64 0, .int .i64 0, .int .i64 0, .int .i64 0, .int .i64 0] 37 (0, 0))) := ⟨h1_⟩
            replace HB : Aside0 (Below w.heap.size w w25) := ⟨h2_⟩
            clear h0_ h1_ h2_
            have hHeld : w25.cell? ⟨ad206.block, ad206.off + 1, none⟩ = some (.string (rdOf ByteArray.empty t203 1)) ∧ w25.cell? ⟨ad206.block, ad206.off + 2, none⟩ = some (.string (rdOf ByteArray.empty t203 2)) ∧ w25.cell? ⟨ad206.block, ad206.off + 3, none⟩ = some (.string (rdOf ByteArray.empty t203 3)) ∧ w25.cell? ⟨ad206.block, ad206.off + 4, none⟩ = some (.string (rdOf ByteArray.empty t203 4)) ∧ w25.cell? ⟨ad206.block, ad206.off + 5, none⟩ = some (.string (rdOf ByteArray.empty t203 5)) ∧ w25.cell? ⟨ad206.block, ad206.off + 6, none⟩ = some (.string (rdOf ByteArray.empty t203 6)) ∧ w25.cell? ⟨ad206.block, ad206.off + 7, none⟩ = some (.string (rdOf ByteArray.empty t203 7)) := hS_
            refine norm_ (a' := ?_) ?_ ?_
            rotate_left
            ·simp only [putAll, Act.put, List.setIfInBounds_toArray, List.set_cons_zero, List.set_cons_succ]
             rfl
            refine one_ (i := 29) (N := some 5) #[true, true, true, true, true, true, true, true, true, true, true, true, true, true, true, true, true, true, true, true, true, true, true, true, true, true, true, true, true, true, false] rfl rfl (one_of HT_.out (by kernel_rfl)) (by decide) (fun K hK => ?_)
            refine box_step ?hg (N := 5) ?hd (cs := #[.int .i64 0, .int .i64 0, .int .i64 0, .int .i64 0, .int .i64 0, .int .i64 0, .int .i64 0, .int .i64 0]) (t := 37) ?hr ?_; (case hd => rfl); (case hg => rfl); (case hr => first | (go_simp; done) | (go_simp; rfl))
            intro gb220 hg w26 hbox hb
            have HS0_ := (hb.cell (World.block_lt_of_cell? _ _ (hHeld.1))).trans (hHeld.1)
            have HS1_ := (hb.cell (World.block_lt_of_cell? _ _ (hHeld.2.1))).trans (hHeld.2.1)
            have HS2_ := (hb.cell (World.block_lt_of_cell? _ _ (hHeld.2.2.1))).trans (hHeld.2.2.1)
            have HS3_ := (hb.cell (World.block_lt_of_cell? _ _ (hHeld.2.2.2.1))).trans (hHeld.2.2.2.1)
            have HS4_ := (hb.cell (World.block_lt_of_cell? _ _ (hHeld.2.2.2.2.1))).trans (hHeld.2.2.2.2.1)
            have HS5_ := (hb.cell (World.block_lt_of_cell? _ _ (hHeld.2.2.2.2.2.1))).trans (hHeld.2.2.2.2.2.1)
            have HS6_ := (hb.cell (World.block_lt_of_cell? _ _ (hHeld.2.2.2.2.2.2))).trans (hHeld.2.2.2.2.2.2)
            replace HO205 := az (Kd.R_below (by (with_reducible repeat (first | apply Kd.R_alloc | apply Kd.R_drewN | apply Kd.R_drew)); exact HO205.out) hb)
            have BK220 := az (hbox)
            have GW220 := az ((by rw [hg]; exact (below_size (by repeat (first | (with_reducible first | exact HB.out | apply wa | apply wn | apply wd | refine ws ‹_› ?_) | exact HB.out))) : w.heap.size ≤ gb220))
            have GE220 := GW220
            replace HB := az (below_step (by repeat (first | (with_reducible first | exact HB.out | apply wa | apply wn | apply wd | refine ws ‹_› ?_) | exact HB.out)) hb)
            obtain ⟨NB202_220, NB220_202⟩ := nb BK202 hg (fun h => by (with_reducible repeat (first | apply bn | apply bd | apply ba)); exact h)
            replace BK202 := bb BK202 (fun h => by (with_reducible repeat (first | apply bn | apply bd | apply ba)); exact h) hb
            clear hb hbox hg
            refine hK.out _ _ ⟨HS0_, HS1_, HS2_, HS3_, HS4_, HS5_, HS6_⟩ (fun hHeld => ?_)
            clear hK K
            refine norm_ (a' := ?_) ?_ ?_
            rotate_left
            ·show Act.put _ (some 5) _ = _
             simp only [Act.put, List.setIfInBounds_toArray, List.set_cons_zero, List.set_cons_succ, i64_w, i32_w]
             rfl
            exact norm_ (by first | (simp only [putAll, Act.put, List.setIfInBounds_toArray, List.set_cons_zero, List.set_cons_succ]; done) | (simp only [putAll, Act.put, List.setIfInBounds_toArray, List.set_cons_zero, List.set_cons_succ]; rfl)) (hJ3_7_11_15_19_23_27_29 (gb220) _ ⟨hHeld, (by (with_reducible repeat (first | apply Kd.R_alloc | apply Kd.R_drewN | apply Kd.R_drew)); exact HO205.out), (by (with_reducible repeat (first | apply bn | apply bd | apply ba)); exact BK202.out), (by (with_reducible repeat (first | apply bn | apply bd | apply ba)); exact BK220.out), GW220.out, GE220.out, NB202_220.out, NB220_202.out, (by repeat (first | (with_reducible first | exact HB.out | apply wa | apply wn | apply wd | refine ws ‹_› ?_) | exact HB.out))⟩)
          rintro gb220 w26 ⟨hS_, h0_, h1_, h2_, h3_, h4_, h5_, h6_, h7_⟩
          replace HO205 : Aside0 (Kd.R Kd.string 9 w26 w.heap.size (fun _ => True) (.slice (some ad206) t203.length co23) t203) := ⟨h0_⟩
          replace BK202 : Aside0 (w26.heap[gb202]? = some (.cells #[.int .i64 0, .int .i64 0, .int .i64 0, .int .i64 0, .int .i64 0, .int .i64 0, .int .i64 0, .int .i64 0] 37 (0, 0))) := ⟨h1_⟩
          have BK220 : Aside0 (w26.heap[gb220]? = some (.cells #[.int .i64 0, .int .i64 0, .int .i64 0, .int .i64 0, .int .i64 0, .int .i64 0, .int .i64 0, .int .i64 0] 37 (0, 0))) := ⟨h2_⟩
          have GW220 : Aside0 (w.heap.size ≤ gb220) := ⟨h3_⟩
          have GE220 : Aside0 (w.heap.size ≤ gb220) := ⟨h4_⟩
          have NB202_220 : Aside0 (gb202 ≠ gb220) := ⟨h5_⟩
          have NB220_202 : Aside0 (gb220 ≠ gb202) := ⟨h6_⟩
          replace HB : Aside0 (Below w.heap.size w w26) := ⟨h7_⟩
          clear h0_ h1_ h2_ h3_ h4_ h5_ h6_ h7_
          have hHeld : w26.cell? ⟨ad206.block, ad206.off + 1, none⟩ = some (.string (rdOf ByteArray.empty t203 1)) ∧ w26.cell? ⟨ad206.block, ad206.off + 2, none⟩ = some (.string (rdOf ByteArray.empty t203 2)) ∧ w26.cell? ⟨ad206.block, ad206.off + 3, none⟩ = some (.string (rdOf ByteArray.empty t203 3)) ∧ w26.cell? ⟨ad206.block, ad206.off + 4, none⟩ = some (.string (rdOf ByteArray.empty t203 4)) ∧ w26.cell? ⟨ad206.block, ad206.off + 5, none⟩ = some (.string (rdOf ByteArray.empty t203 5)) ∧ w26.cell? ⟨ad206.block, ad206.off + 6, none⟩ = some (.string (rdOf ByteArray.empty t203 6)) ∧ w26.cell? ⟨ad206.block, ad206.off + 7, none⟩ = some (.string (rdOf ByteArray.empty t203 7)) := hS_
          refine norm_ (a' := ?_) ?_ ?_
          rotate_left
          ·simp only [putAll, Act.put, List.setIfInBounds_toArray, List.set_cons_zero, List.set_cons_succ]
           rfl
          refine one_ (i := 30) (N := none) #[true, true, true, true, true, true, true, true, true, true, true, true, true, true, true, true, true, true, true, true, true, true, true, true, true, true, true, true, true, true, true] rfl rfl (one_of HT_.out (by kernel_rfl)) (by decide) (fun K hK => ?_)
          have hs27 : w26.cell? ⟨gb220, 0, none⟩ = some (.int .i64 0) := bt BK220 rfl
          have hfs27 := blk_frozen BK220.out 0
          have hns27_0 := NB202_220.out
          have hms27_0 := NB220_202.out
          have hs28 : w26.cell? ⟨gb220, 1, none⟩ = some (.int .i64 0) := bt BK220 rfl
          have hfs28 := blk_frozen BK220.out 1
          have hns28_0 := NB202_220.out
          have hms28_0 := NB220_202.out
          have hs29 : w26.cell? ⟨gb220, 2, none⟩ = some (.int .i64 0) := bt BK220 rfl
          have hfs29 := blk_frozen BK220.out 2
          have hns29_0 := NB202_220.out
          have hms29_0 := NB220_202.out
          have hs30 : w26.cell? ⟨gb220, 3, none⟩ = some (.int .i64 0) := bt BK220 rfl
          have hfs30 := blk_frozen BK220.out 3
          have hns30_0 := NB202_220.out
          have hms30_0 := NB220_202.out
          have hs31 : w26.cell? ⟨gb220, 4, none⟩ = some (.int .i64 0) := bt BK220 rfl
          have hfs31 := blk_frozen BK220.out 4
          have hns31_0 := NB202_220.out
          have hms31_0 := NB220_202.out
          have hs32 : w26.cell? ⟨gb220, 5, none⟩ = some (.int .i64 0) := bt BK220 rfl
          have hfs32 := blk_frozen BK220.out 5
          have hns32_0 := NB202_220.out
          have hms32_0 := NB220_202.out
          have hs33 : w26.cell? ⟨gb220, 6, none⟩ = some (.int .i64 0) := bt BK220 rfl
          have hfs33 := blk_frozen BK220.out 6
          have hns33_0 := NB202_220.out
          have hms33_0 := NB220_202.out
          have hs34 : w26.cell? ⟨gb220, 7, none⟩ = some (.int .i64 0) := bt BK220 rfl
          have hfs34 := blk_frozen BK220.out 7
          have hns34_0 := NB202_220.out
          have hms34_0 := NB220_202.out
          refine skip_ (w1 := ?_) (by rfl) rfl ?_ ?_
          rotate_left
          ·go_simp
           rfl
          have hne6 : ad206.block ≠ gb220 := blk_own (Kd.R_ne HO205.out BK220.out (by decide))
          refine hK.out _ _ ⟨(far8 (a := ⟨ad206.block, _, none⟩) hne6 _ _ _ _ _ _ _ _).trans hHeld.1, (far8 (a := ⟨ad206.block, _, none⟩) hne6 _ _ _ _ _ _ _ _).trans hHeld.2.1, (far8 (a := ⟨ad206.block, _, none⟩) hne6 _ _ _ _ _ _ _ _).trans hHeld.2.2.1, (far8 (a := ⟨ad206.block, _, none⟩) hne6 _ _ _ _ _ _ _ _).trans hHeld.2.2.2.1, (far8 (a := ⟨ad206.block, _, none⟩) hne6 _ _ _ _ _ _ _ _).trans hHeld.2.2.2.2.1, (far8 (a := ⟨ad206.block, _, none⟩) hne6 _ _ _ _ _ _ _ _).trans hHeld.2.2.2.2.2.1, (far8 (a := ⟨ad206.block, _, none⟩) hne6 _ _ _ _ _ _ _ _).trans hHeld.2.2.2.2.2.2⟩ (fun hHeld => ?_)
          clear hK K
          refine done_ (done_of HT_.out (by kernel_rfl)) ?_
          refine hideS_ (fun w' => Kd.R Kd.string 9 w' w.heap.size (fun _ => True) (.slice (some ad206) t203.length co23) t203 ∧ w'.heap[gb202]? = some (.cells #[.int .i64 0, .int .i64 0, .int .i64 0, .int .i64 0, .int .i64 0, .int .i64 0, .int .i64 0, .int .i64 0] 37 (0, 0)) ∧ w'.heap[gb220]? = some (.cells #[.int .i64 0, .int .i64 t207, .int .i64 t209, .int .i64 t211, .int .i64 t213, .int .i64 t215, .int .i64 t217, .int .i64 t219] 37 (0, 0)) ∧ Below w.heap.size w w') ⟨by (with_reducible repeat (first | apply Kd.R_alloc | apply Kd.R_drewN | apply Kd.R_drew)); exact Kd.R_mono (Kd.R_far (p := ⟨gb220, 7, none⟩) (Kd.R_far (p := ⟨gb220, 6, none⟩) (Kd.R_far (p := ⟨gb220, 5, none⟩) (Kd.R_far (p := ⟨gb220, 4, none⟩) (Kd.R_far (p := ⟨gb220, 3, none⟩) (Kd.R_far (p := ⟨gb220, 2, none⟩) (Kd.R_far (p := ⟨gb220, 1, none⟩) (Kd.R_far (p := ⟨gb220, 0, none⟩) (Kd.R_types HO205.out BK220.out (by decide)) (fun _ hk => hk.2) (.int .i64 0)) (fun _ hk => hk.2) (.int .i64 t207)) (fun _ hk => hk.2) (.int .i64 t209)) (fun _ hk => hk.2) (.int .i64 t211)) (fun _ hk => hk.2) (.int .i64 t213)) (fun _ hk => hk.2) (.int .i64 t215)) (fun _ hk => hk.2) (.int .i64 t217)) (fun _ hk => hk.2) (.int .i64 t219)) (fun _ hk => trivial), by (repeat (first | (with_reducible first | apply bn | apply bd | apply ba) | apply bf NB202_220)); exact BK202.out, by (with_reducible repeat (first | apply bn | apply bd | apply ba)); exact p8 BK220, by repeat (first | (with_reducible first | exact HB.out | apply wa | apply wn | apply wd | refine ws ‹_› ?_) | exact HB.out)⟩ ?_
          (try clear hHeld);(try clear HO205);(try clear BK202);(try clear BK220);(try clear HB);(try clear hx206_0);(try clear hx208_0);(try clear hx210_0);(try clear hx212_0);(try clear hx214_0);(try clear hx216_0);(try clear hx218_0);(try clear e206);(try clear e208);(try clear e210);(try clear e212);(try clear e214);(try clear e216);(try clear e218);(try clear hs27);(try clear hfs27);(try clear hns27_0);(try clear hms27_0);(try clear hs28);(try clear hfs28);(try clear hns28_0);(try clear hms28_0);(try clear hs29);(try clear hfs29);(try clear hns29_0);(try clear hms29_0);(try clear hs30);(try clear hfs30);(try clear hns30_0);(try clear hms30_0);(try clear hs31);(try clear hfs31);(try clear hns31_0);(try clear hms31_0);(try clear hs32);(try clear hfs32);(try clear hns32_0);(try clear hms32_0);(try clear hs33);(try clear hfs33);(try clear hns33_0);(try clear hms33_0);(try clear hs34);(try clear hfs34);(try clear hns34_0);(try clear hms34_0)
          rintro w27 ⟨h1_, h2_, h3_, h4_⟩
          have HO205 := az h1_
          have BK202 := az h2_
          have BK220 := az h3_
          have HB := az h4_
          clear h1_ h2_ h3_ h4_
          try go_wp2
          go_loopg [6] k (fun kq v6 w' => ∃ (x6_1 : Int) (x221000_1 : Int), v6 = .int .i64 x6_1 ∧ Aside0 (spec_RecRead.l0 kq a0 t203 x6_1 x221000_1 t207 t209 t211 t213 t215 t217 t219 = some (r1, r2, r3, r4, r5, r6, r7, r8, r9)) ∧ Aside0 (kq ≤ k) ∧ Aside0 (Kd.R Kd.string 9 w' w.heap.size (fun _ => True) (.slice (some ad206) t203.length co23) t203) ∧ Aside0 (w'.heap[gb202]? = some (.cells #[.int .i64 0, .int .i64 0, .int .i64 0, .int .i64 0, .int .i64 0, .int .i64 0, .int .i64 0, .int .i64 0] 37 (0, 0))) ∧ Aside0 (w'.heap[gb220]? = some (.cells #[.int .i64 x221000_1, .int .i64 t207, .int .i64 t209, .int .i64 t211, .int .i64 t213, .int .i64 t215, .int .i64 t217, .int .i64 t219] 37 (0, 0))) ∧ Aside0 (Below w.heap.size w w'))
          case atStart => exact ⟨(1), (0), (by first | rfl | (simp; done) | (simp [*]; done)), H', ⟨Nat.le_refl _⟩, ⟨by (with_reducible repeat (first | apply Kd.R_alloc | apply Kd.R_drewN | apply Kd.R_drew)); exact HO205.out⟩, ⟨by (with_reducible repeat (first | apply bn | apply bd | apply ba)); exact BK202.out⟩, ⟨by (with_reducible repeat (first | apply bn | apply bd | apply ba)); exact BK220.out⟩, ⟨by repeat (first | (with_reducible first | exact HB.out | apply wa | apply wn | apply wd) | exact HB.out)⟩⟩
          case round =>
           clear H';(try clear p2);(try clear c5)
           obtain ⟨x6_1, x221000_1, rfl, HA, HK1, HO_4, BK202, BK220, HB⟩ := hrel
           cases gk with
           | zero => exact absurd HA.out (by simp [spec_RecRead.l0])
           | succ k1 =>
            have H := HA.out
            clear HA
            simp only [spec_RecRead.l0] at H
            replace H := Option.bind_eq_some_iff.mp H
            obtain ⟨t221, A350, H⟩ := H
            replace H : (if x6_1 < (t221.length : Int) then ((spec_l2Names.f).bind fun t224 => (if 0 ≤ x6_1 then (if x6_1 < (t224.length : Int) then (if 0 < (t203.length : Int) then (if (rdOf ByteArray.empty t224 x6_1).toList = (rdOf ByteArray.empty t203 0).toList then (spec_RecRead.l0 k1 a0 t203 (wrap64 (x6_1 + 1)) x6_1 t207 t209 t211 t213 t215 t217 t219) else (spec_RecRead.l0 k1 a0 t203 (wrap64 (x6_1 + 1)) x221000_1 t207 t209 t211 t213 t215 t217 t219)) else (none)) else (none)) else (none))) else (if a0.toList = ([] : List UInt8) then (some (0, 0, 0, 0, 0, 0, 0, 0, false)) else ((spec_RecText.f k1 x221000_1 t207 t209 t211 t213 t215 t217 t219).bind fun t229 => (if t229.toList = a0.toList then (some (x221000_1, t207, t209, t211, t213, t215, t217, t219, true)) else (some (0, 0, 0, 0, 0, 0, 0, 0, false)))))) = some (r1, r2, r3, r4, r5, r6, r7, r8, r9) := H
            have A35 := az A350
            clear A350
            by_cases c36 : x6_1 < (t221.length : Int)
            ·rw [if_pos c36] at H
             have c36b0 : decide (x6_1 < (t221.length : Int)) = true := decide_eq_true c36
             clear c36
             replace H := Option.bind_eq_some_iff.mp H
             obtain ⟨t224, A370, H⟩ := H
             replace H : (if 0 ≤ x6_1 then (if x6_1 < (t224.length : Int) then (if 0 < (t203.length : Int) then (if (rdOf ByteArray.empty t224 x6_1).toList = (rdOf ByteArray.empty t203 0).toList then (spec_RecRead.l0 k1 a0 t203 (wrap64 (x6_1 + 1)) x6_1 t207 t209 t211 t213 t215 t217 t219) else (spec_RecRead.l0 k1 a0 t203 (wrap64 (x6_1 + 1)) x221000_1 t207 t209 t211 t213 t215 t217 t219)) else (none)) else (none)) else (none)) = some (r1, r2, r3, r4, r5, r6, r7, r8, r9) := H
             have A37 := az A370
             clear A370
             by_cases c38 : 0 ≤ x6_1
             ·rw [if_pos c38] at H
              have c38b0 : decide (0 ≤ x6_1) = true := decide_eq_true c38
              clear c38
              by_cases c39 : x6_1 < (t224.length : Int)
              ·rw [if_pos c39] at H
               have c39b0 : decide (x6_1 < (t224.length : Int)) = true := decide_eq_true c39
               clear c39
               by_cases c40 : 0 < (t203.length : Int)
               ·rw [if_pos c40] at H
                have c40b0 : decide (0 < (t203.length : Int)) = true := decide_eq_true c40
                have c40b1 : decide (0 < t203.length) = true := decide_eq_true (by omega)
                clear c40
                by_cases c41 : (rdOf ByteArray.empty t224 x6_1).toList = (rdOf ByteArray.empty t203 0).toList
                ·rw [if_pos c41] at H
                 have c41b0 : ((rdOf ByteArray.empty t224 x6_1).toList == (rdOf ByteArray.empty t203 0).toList) = true := beq_iff_eq.mpr c41
                 have c41b1 : ((rdOf ByteArray.empty t224 x6_1).toList != (rdOf ByteArray.empty t203 0).toList) = false := bne_eq_false_iff_eq.mpr c41
                 clear c41
                 have H' := az H
                 clear H
                 try go_wp2_with (first | ((with_reducible refine gate_callee (f := 44) rfl ?_); refine goesL_ (some 47) rfl rfl Tryd.func44 (by kernel_rfl) rfl #[] rfl (by (try simp only [List.map_toArray, List.map_cons, List.map_nil]); first | done | rfl | (simp only [List.length_drop, List.length_take]; rfl)) ?_; (with_reducible refine (spec_l2Names.calls  t221 _ A35.out).mono ?_); rintro e w42 ⟨v222, rfl, ho0, hb⟩; refine ⟨_, rfl, ?_⟩; have HO223 := az (Kd.R_lower (Kd.R_new' ho0 (Kd.R_lt (by (with_reducible repeat (first | apply Kd.R_alloc | apply Kd.R_drewN | apply Kd.R_drew)); exact HO_4.out))) (below_size (by repeat (first | (with_reducible first | exact HB.out | apply wa | apply wn | apply wd | refine ws ‹_› ?_) | exact HB.out)))); replace HO_4 := az (Kd.R_elder' (by (with_reducible repeat (first | apply Kd.R_alloc | apply Kd.R_drewN | apply Kd.R_drew)); exact HO_4.out) (Kd.R_base ho0) hb); replace BK202 := bb BK202 (fun h => by (with_reducible repeat (first | apply bn | apply bd | apply ba)); exact h) hb; replace BK220 := bb BK220 (fun h => by (with_reducible repeat (first | apply bn | apply bd | apply ba)); exact h) hb; replace HB := az (below_step (by repeat (first | (with_reducible first | exact HB.out | apply wa | apply wn | apply wd | refine ws ‹_› ?_) | exact HB.out)) hb); (try clear hb); (try clear hb2); (try clear hk); (try clear hi); (try clear ho0); obtain ⟨Ao43, co43, eo43⟩ := Kd.R_slice HO223.out; subst eo43))
                 replace HO_4 := az (Kd.R_drew HO_4.out)
                 replace HO223 := az (Kd.R_drew HO223.out)
                 replace BK202 := az (blk_drew BK202.out)
                 replace BK220 := az (blk_drew BK220.out)
                 replace HB := az (wd HB.out)
                 have p228 : 0 ≤ (0 : Int) := (by omega)
                 have q228 : 0 < (t203.length : Int) := of_decide_eq_true (by first | (with_reducible assumption) | assumption)
                 obtain ⟨ad228, e228, hx228_0⟩ := Kd.at_string (Kd.R_reads' HO_4.out).2.2 0 p228 q228
                 obtain rfl : ad206 = ad228 := (by injection e228)
                 have qi228 : (0 < t203.length) = True := eq_true (by omega)
                 (try rw [show ((0 : Int)).toNat = 0 from rfl] at hx228_0)
                 (try rw [Addr.add_zero'] at hx228_0)
                 replace p228 := eq_true p228
                 replace q228 := eq_true q228
                 refine start_ (n := 8) (S := fun w' => w'.cell? ad206 = some (.string (rdOf ByteArray.empty t203 0))) (ds := []) #[false, false, false, false, false, false, false, false] (by kernel_rfl) rfl rfl (hx228_0) (fun hHeld => ?_); refine with_tabW spec_RecRead.tab10 spec_RecRead.bits10 (fun HT_ HW_ => ?_)
                 generalize w42.drew = w44 at HO_4 HO223 BK202 BK220 HB hx228_0 hHeld ⊢
                 refine pure_ (i := 1) (N := some 53) (v := ?_) (a' := ?_) #[false, true, false, false, false, false, false, false] rfl rfl (any_of HT_.out (by kernel_rfl)) (fun _ _ _ h => h) (Or.inl ⟨by rfl, ?_⟩) ?_ ?_
                 rotate_left
                 ·intro w'
                  go_simp
                  with_reducible rfl
                 rotate_left
                 ·simp only [Act.put, List.setIfInBounds_toArray, List.set_cons_zero, List.set_cons_succ, i64_w, i32_w]
                  rfl
                 refine pure_ (i := 4) (N := some 56) (v := ?_) (a' := ?_) #[false, true, false, false, true, false, false, false] rfl rfl (any_of HT_.out (by kernel_rfl)) (fun _ _ _ h => h) (Or.inl ⟨by rfl, ?_⟩) ?_ ?_
                 rotate_left
                 ·intro w'
                  go_simp
                  with_reducible rfl
                 rotate_left
                 ·simp only [Act.put, List.setIfInBounds_toArray, List.set_cons_zero, List.set_cons_succ, i64_w, i32_w]
                  rfl
                 refine pure_ (i := 5) (N := some 57) (v := ?_) (a' := ?_) #[false, true, false, false, true, true, false, false] rfl rfl (any_of HT_.out (by kernel_rfl)) (fun _ _ _ h => h) (Or.inl ⟨by rfl, ?_⟩) ?_ ?_
                 rotate_left
                 ·intro w'
                  go_simp
                  with_reducible rfl
                 rotate_left
                 ·simp only [Act.put, List.setIfInBounds_toArray, List.set_cons_zero, List.set_cons_succ, i64_w, i32_w]
                  rfl
                 refine take_ (i := 6) (N := some 58) (v := ?_) (a' := ?_) #[false, true, false, false, true, true, true, false] rfl rfl (take_ofW HT_.out HW_.out (by kernel_rfl)) (fun _ _ _ h => h) (Or.inl ⟨by rfl, ?_⟩) hHeld ?_ ?_
                 rotate_left
                 ·rintro w' s0
                  go_simp
                  with_reducible rfl
                 rotate_left
                 ·simp only [Act.put, List.setIfInBounds_toArray, List.set_cons_zero, List.set_cons_succ, i64_w, i32_w]
                  rfl
                 refine one_ (i := 0) (N := some 52) #[true, true, false, false, true, true, true, false] rfl rfl (one_of HT_.out (by kernel_rfl)) (by decide) (fun K hK => ?_)
                 refine goes_ Tryd.func44 (by kernel_rfl) rfl #[] (by rfl) rfl rfl (by (try simp only [List.map_toArray, List.map_cons, List.map_nil]); first | done | rfl | (simp only [List.length_drop, List.length_take]; rfl)) ?_
                 with_reducible refine (spec_l2Names.calls  t224 _ A37.out).mono ?_
                 rintro e w45 ⟨v225, rfl, ho0, hb⟩
                 have HS0_ := (hb.cell (World.block_lt_of_cell? _ _ (hHeld))).trans (hHeld)
                 refine ⟨_, rfl, ?_⟩
                 have HO226 := az (Kd.R_lower (Kd.R_new' (Kd.R_new' ho0 (Kd.R_lt (by (with_reducible repeat (first | apply Kd.R_alloc | apply Kd.R_drewN | apply Kd.R_drew)); exact HO_4.out))) (Kd.R_lt (by (with_reducible repeat (first | apply Kd.R_alloc | apply Kd.R_drewN | apply Kd.R_drew)); exact HO223.out))) (below_size (by repeat (first | (with_reducible first | exact HB.out | apply wa | apply wn | apply wd | refine ws ‹_› ?_) | exact HB.out))))
                 replace HO_4 := az (Kd.R_elder' (by (with_reducible repeat (first | apply Kd.R_alloc | apply Kd.R_drewN | apply Kd.R_drew)); exact HO_4.out) (Kd.R_base ho0) hb)
                 replace HO223 := az (Kd.R_elder' (by (with_reducible repeat (first | apply Kd.R_alloc | apply Kd.R_drewN | apply Kd.R_drew)); exact HO223.out) (Kd.R_base ho0) hb)
                 replace BK202 := bb BK202 (fun h => by (with_reducible repeat (first | apply bn | apply bd | apply ba)); exact h) hb
                 replace BK220 := bb BK220 (fun h => by (with_reducible repeat (first | apply bn | apply bd | apply ba)); exact h) hb
                 replace HB := az (below_step (by repeat (first | (with_reducible first | exact HB.out | apply wa | apply wn | apply wd | refine ws ‹_› ?_) | exact HB.out)) hb)
                 (try clear hb);(try clear hb2);(try clear hk);(try clear hi);(try clear ho0)
                 obtain ⟨Ao46, co46, eo46⟩ := Kd.R_slice HO226.out
                 (first | subst eo46 | (injection eo46 with f1_ f2_ f3_; have f4_ := f1_.symm; have f5_ := f3_.symm; clear f1_ f2_ f3_; subst f4_; subst f5_))
                 have p227 : 0 ≤ (x6_1 : Int) := of_decide_eq_true (by first | (with_reducible assumption) | assumption)
                 have q227 : x6_1 < (t224.length : Int) := of_decide_eq_true (by first | (with_reducible assumption) | assumption)
                 obtain ⟨ad227, e227, hx227_0⟩ := Kd.at_string (Kd.R_reads' HO226.out).2.2 x6_1 p227 q227
                 cases e227
                 replace p227 := eq_true p227
                 replace q227 := eq_true q227
                 refine hK.out _ _ (HS0_) (fun hHeld => ?_)
                 clear hK K
                 refine switch_ (fun w' => w'.cell? ad206 = some (.string (rdOf ByteArray.empty t203 0)) ∧ w'.cell? (ad227.add (x6_1).toNat) = some (.string (rdOf ByteArray.empty t224 x6_1))) (fun _ h => h.1) ⟨hHeld, hx227_0⟩ (fun hHeld => ?_)
                 refine norm_ (a' := ?_) ?_ ?_
                 rotate_left
                 ·show Act.put _ (some 52) _ = _
                  simp only [Act.put, List.setIfInBounds_toArray, List.set_cons_zero, List.set_cons_succ, i64_w, i32_w]
                  rfl
                 refine pure_ (i := 2) (N := some 54) (v := ?_) (a' := ?_) #[true, true, true, false, true, true, true, false] rfl rfl (any_of HT_.out (by kernel_rfl)) (fun _ _ _ h => h) (Or.inl ⟨by rfl, ?_⟩) ?_ ?_
                 rotate_left
                 ·intro w'
                  go_simp
                  with_reducible rfl
                 rotate_left
                 ·simp only [Act.put, List.setIfInBounds_toArray, List.set_cons_zero, List.set_cons_succ, i64_w, i32_w]
                  rfl
                 refine take_ (i := 3) (N := some 55) (v := ?_) (a' := ?_) #[true, true, true, true, true, true, true, false] rfl rfl (take_ofW HT_.out HW_.out (by kernel_rfl)) (fun _ _ _ h => h) (Or.inl ⟨by rfl, ?_⟩) hHeld ?_ ?_
                 rotate_left
                 ·rintro w' ⟨s0, s1⟩
                  go_simp
                  with_reducible rfl
                 rotate_left
                 ·simp only [Act.put, List.setIfInBounds_toArray, List.set_cons_zero, List.set_cons_succ, i64_w, i32_w]
                  rfl
                 refine pure_ (i := 7) (N := some 59) (v := ?_) (a' := ?_) #[true, true, true, true, true, true, true, true] rfl rfl (any_of HT_.out (by kernel_rfl)) (fun _ _ _ h => h) (Or.inl ⟨by rfl, ?_⟩) ?_ ?_
                 rotate_left
                 ·intro w'
                  go_simp
                  with_reducible rfl
                 rotate_left
                 ·simp only [Act.put, List.setIfInBounds_toArray, List.set_cons_zero, List.set_cons_succ, i64_w, i32_w]
                  rfl
                 refine done_ (done_of HT_.out (by kernel_rfl)) ?_
                 have hnb47 := NB220_202.out
                 have hnc47 := NB202_220.out
                 obtain ⟨hcz48_0, hcz48_1, hcz48_2, hcz48_3, hcz48_4, hcz48_5, hcz48_6, hcz48_7⟩ := cz8 BK220
                 obtain ⟨hfz48_0, hfz48_1, hfz48_2, hfz48_3, hfz48_4, hfz48_5, hfz48_6, hfz48_7⟩ := fz8 BK220
                 try go_wp2
                 go_roundg k1
                 case measure => have := HK1.out; omega
                 case rel => exact ⟨(wrap64 (x6_1 + 1)), (x6_1), (by first | rfl | (simp; done) | (simp [*]; done)), H', ⟨by have := HK1.out; omega⟩, ⟨by (with_reducible repeat (first | apply Kd.R_alloc | apply Kd.R_drewN | apply Kd.R_drew)); exact Kd.R_mono (Kd.R_far (p := ⟨gb220, 0, none⟩) (Kd.R_types HO_4.out BK220.out (by decide)) (fun _ hk => hk.2) (.int .i64 x6_1)) (fun _ hk => trivial)⟩, ⟨by (repeat (first | (with_reducible first | apply bn | apply bd | apply ba) | apply bf NB202_220)); exact BK202.out⟩, ⟨by (with_reducible repeat (first | apply bn | apply bd | apply ba)); refine blk_put (cs := #[.int .i64 x221000_1, .int .i64 t207, .int .i64 t209, .int .i64 t211, .int .i64 t213, .int .i64 t215, .int .i64 t217, .int .i64 t219]) ?_ 0 _ rfl; (with_reducible repeat (first | apply bn | apply bd | apply ba)); exact BK220.out⟩, ⟨by repeat (first | (with_reducible first | exact HB.out | apply wa | apply wn | apply wd | refine ws ‹_› ?_) | exact HB.out)⟩⟩
                ·rw [if_neg c41] at H
                 have c41b0 : ((rdOf ByteArray.empty t224 x6_1).toList == (rdOf ByteArray.empty t203 0).toList) = false := beq_eq_false_iff_ne.mpr c41
                 have c41b1 : ((rdOf ByteArray.empty t224 x6_1).toList != (rdOf ByteArray.empty t203 0).toList) = true := bne_iff_ne.mpr c41
                 have H' := az H
                 clear H
                 try go_wp2_with (first | ((with_reducible refine gate_callee (f := 44) rfl ?_); refine goesL_ (some 47) rfl rfl Tryd.func44 (by kernel_rfl) rfl #[] rfl (by (try simp only [List.map_toArray, List.map_cons, List.map_nil]); first | done | rfl | (simp only [List.length_drop, List.length_take]; rfl)) ?_; (with_reducible refine (spec_l2Names.calls  t221 _ A35.out).mono ?_); rintro e w49 ⟨v222, rfl, ho0, hb⟩; refine ⟨_, rfl, ?_⟩; have HO223 := az (Kd.R_lower (Kd.R_new' ho0 (Kd.R_lt (by (with_reducible repeat (first | apply Kd.R_alloc | apply Kd.R_drewN | apply Kd.R_drew)); exact HO_4.out))) (below_size (by repeat (first | (with_reducible first | exact HB.out | apply wa | apply wn | apply wd | refine ws ‹_› ?_) | exact HB.out)))); replace HO_4 := az (Kd.R_elder' (by (with_reducible repeat (first | apply Kd.R_alloc | apply Kd.R_drewN | apply Kd.R_drew)); exact HO_4.out) (Kd.R_base ho0) hb); replace BK202 := bb BK202 (fun h => by (with_reducible repeat (first | apply bn | apply bd | apply ba)); exact h) hb; replace BK220 := bb BK220 (fun h => by (with_reducible repeat (first | apply bn | apply bd | apply ba)); exact h) hb; replace HB := az (below_step (by repeat (first | (with_reducible first | exact HB.out | apply wa | apply wn | apply wd | refine ws ‹_› ?_) | exact HB.out)) hb); (try clear hb); (try clear hb2); (try clear hk); (try clear hi); (try clear ho0); obtain ⟨Ao50, co50, eo50⟩ := Kd.R_slice HO223.out; subst eo50))
                 replace HO_4 := az (Kd.R_drew HO_4.out)
                 replace HO223 := az (Kd.R_drew HO223.out)
                 replace BK202 := az (blk_drew BK202.out)
                 replace BK220 := az (blk_drew BK220.out)
                 replace HB := az (wd HB.out)
                 have p228 : 0 ≤ (0 : Int) := (by omega)
                 have q228 : 0 < (t203.length : Int) := of_decide_eq_true (by first | (with_reducible assumption) | assumption)
                 obtain ⟨ad228, e228, hx228_0⟩ := Kd.at_string (Kd.R_reads' HO_4.out).2.2 0 p228 q228
                 obtain rfl : ad206 = ad228 := (by injection e228)
                 have qi228 : (0 < t203.length) = True := eq_true (by omega)
                 (try rw [show ((0 : Int)).toNat = 0 from rfl] at hx228_0)
                 (try rw [Addr.add_zero'] at hx228_0)
                 replace p228 := eq_true p228
                 replace q228 := eq_true q228
                 refine start_ (n := 8) (S := fun w' => w'.cell? ad206 = some (.string (rdOf ByteArray.empty t203 0))) (ds := []) #[false, false, false, false, false, false, false, false] (by kernel_rfl) rfl rfl (hx228_0) (fun hHeld => ?_); refine with_tabW spec_RecRead.tab10 spec_RecRead.bits10 (fun HT_ HW_ => ?_)
                 generalize w49.drew = w51 at HO_4 HO223 BK202 BK220 HB hx228_0 hHeld ⊢
                 refine pure_ (i := 1) (N := some 53) (v := ?_) (a' := ?_) #[false, true, false, false, false, false, false, false] rfl rfl (any_of HT_.out (by kernel_rfl)) (fun _ _ _ h => h) (Or.inl ⟨by rfl, ?_⟩) ?_ ?_
                 rotate_left
                 ·intro w'
                  go_simp
                  with_reducible rfl
                 rotate_left
                 ·simp only [Act.put, List.setIfInBounds_toArray, List.set_cons_zero, List.set_cons_succ, i64_w, i32_w]
                  rfl
                 refine pure_ (i := 4) (N := some 56) (v := ?_) (a' := ?_) #[false, true, false, false, true, false, false, false] rfl rfl (any_of HT_.out (by kernel_rfl)) (fun _ _ _ h => h) (Or.inl ⟨by rfl, ?_⟩) ?_ ?_
                 rotate_left
                 ·intro w'
                  go_simp
                  with_reducible rfl
                 rotate_left
                 ·simp only [Act.put, List.setIfInBounds_toArray, List.set_cons_zero, List.set_cons_succ, i64_w, i32_w]
                  rfl
                 refine pure_ (i := 5) (N := some 57) (v := ?_) (a' := ?_) #[false, true, false, false, true, true, false, false] rfl rfl (any_of HT_.out (by kernel_rfl)) (fun _ _ _ h => h) (Or.inl ⟨by rfl, ?_⟩) ?_ ?_
                 rotate_left
                 ·intro w'
                  go_simp
                  with_reducible rfl
                 rotate_left
                 ·simp only [Act.put, List.setIfInBounds_toArray, List.set_cons_zero, List.set_cons_succ, i64_w, i32_w]
                  rfl
                 refine take_ (i := 6) (N := some 58) (v := ?_) (a' := ?_) #[false, true, false, false, true, true, true, false] rfl rfl (take_ofW HT_.out HW_.out (by kernel_rfl)) (fun _ _ _ h => h) (Or.inl ⟨by rfl, ?_⟩) hHeld ?_ ?_
                 rotate_left
                 ·rintro w' s0
                  go_simp
                  with_reducible rfl
                 rotate_left
                 ·simp only [Act.put, List.setIfInBounds_toArray, List.set_cons_zero, List.set_cons_succ, i64_w, i32_w]
                  rfl
                 refine one_ (i := 0) (N := some 52) #[true, true, false, false, true, true, true, false] rfl rfl (one_of HT_.out (by kernel_rfl)) (by decide) (fun K hK => ?_)
                 refine goes_ Tryd.func44 (by kernel_rfl) rfl #[] (by rfl) rfl rfl (by (try simp only [List.map_toArray, List.map_cons, List.map_nil]); first | done | rfl | (simp only [List.length_drop, List.length_take]; rfl)) ?_
                 with_reducible refine (spec_l2Names.calls  t224 _ A37.out).mono ?_
                 rintro e w52 ⟨v225, rfl, ho0, hb⟩
                 have HS0_ := (hb.cell (World.block_lt_of_cell? _ _ (hHeld))).trans (hHeld)
                 refine ⟨_, rfl, ?_⟩
                 have HO226 := az (Kd.R_lower (Kd.R_new' (Kd.R_new' ho0 (Kd.R_lt (by (with_reducible repeat (first | apply Kd.R_alloc | apply Kd.R_drewN | apply Kd.R_drew)); exact HO_4.out))) (Kd.R_lt (by (with_reducible repeat (first | apply Kd.R_alloc | apply Kd.R_drewN | apply Kd.R_drew)); exact HO223.out))) (below_size (by repeat (first | (with_reducible first | exact HB.out | apply wa | apply wn | apply wd | refine ws ‹_› ?_) | exact HB.out))))
                 replace HO_4 := az (Kd.R_elder' (by (with_reducible repeat (first | apply Kd.R_alloc | apply Kd.R_drewN | apply Kd.R_drew)); exact HO_4.out) (Kd.R_base ho0) hb)
                 replace HO223 := az (Kd.R_elder' (by (with_reducible repeat (first | apply Kd.R_alloc | apply Kd.R_drewN | apply Kd.R_drew)); exact HO223.out) (Kd.R_base ho0) hb)
                 replace BK202 := bb BK202 (fun h => by (with_reducible repeat (first | apply bn | apply bd | apply ba)); exact h) hb
                 replace BK220 := bb BK220 (fun h => by (with_reducible repeat (first | apply bn | apply bd | apply ba)); exact h) hb
                 replace HB := az (below_step (by repeat (first | (with_reducible first | exact HB.out | apply wa | apply wn | apply wd | refine ws ‹_› ?_) | exact HB.out)) hb)
                 (try clear hb);(try clear hb2);(try clear hk);(try clear hi);(try clear ho0)
                 obtain ⟨Ao53, co53, eo53⟩ := Kd.R_slice HO226.out
                 (first | subst eo53 | (injection eo53 with f1_ f2_ f3_; have f4_ := f1_.symm; have f5_ := f3_.symm; clear f1_ f2_ f3_; subst f4_; subst f5_))
                 have p227 : 0 ≤ (x6_1 : Int) := of_decide_eq_true (by first | (with_reducible assumption) | assumption)
                 have q227 : x6_1 < (t224.length : Int) := of_decide_eq_true (by first | (with_reducible assumption) | assumption)
                 obtain ⟨ad227, e227, hx227_0⟩ := Kd.at_string (Kd.R_reads' HO226.out).2.2 x6_1 p227 q227
                 cases e227
                 replace p227 := eq_true p227
                 replace q227 := eq_true q227
                 refine hK.out _ _ (HS0_) (fun hHeld => ?_)
                 clear hK K
                 refine switch_ (fun w' => w'.cell? ad206 = some (.string (rdOf ByteArray.empty t203 0)) ∧ w'.cell? (ad227.add (x6_1).toNat) = some (.string (rdOf ByteArray.empty t224 x6_1))) (fun _ h => h.1) ⟨hHeld, hx227_0⟩ (fun hHeld => ?_)
                 refine norm_ (a' := ?_) ?_ ?_
                 rotate_left
                 ·show Act.put _ (some 52) _ = _
                  simp only [Act.put, List.setIfInBounds_toArray, List.set_cons_zero, List.set_cons_succ, i64_w, i32_w]
                  rfl
                 refine pure_ (i := 2) (N := some 54) (v := ?_) (a' := ?_) #[true, true, true, false, true, true, true, false] rfl rfl (any_of HT_.out (by kernel_rfl)) (fun _ _ _ h => h) (Or.inl ⟨by rfl, ?_⟩) ?_ ?_
                 rotate_left
                 ·intro w'
                  go_simp
                  with_reducible rfl
                 rotate_left
                 ·simp only [Act.put, List.setIfInBounds_toArray, List.set_cons_zero, List.set_cons_succ, i64_w, i32_w]
                  rfl
                 refine take_ (i := 3) (N := some 55) (v := ?_) (a' := ?_) #[true, true, true, true, true, true, true, false] rfl rfl (take_ofW HT_.out HW_.out (by kernel_rfl)) (fun _ _ _ h => h) (Or.inl ⟨by rfl, ?_⟩) hHeld ?_ ?_
                 rotate_left
                 ·rintro w' ⟨s0, s1⟩
                  go_simp
                  with_reducible rfl
                 rotate_left
                 ·simp only [Act.put, List.setIfInBounds_toArray, List.set_cons_zero, List.set_cons_succ, i64_w, i32_w]
                  rfl
                 refine pure_ (i := 7) (N := some 59) (v := ?_) (a' := ?_) #[true, true, true, true, true, true, true, true] rfl rfl (any_of HT_.out (by kernel_rfl)) (fun _ _ _ h => h) (Or.inl ⟨by rfl, ?_⟩) ?_ ?_
                 rotate_left
                 ·intro w'
                  go_simp
                  with_reducible rfl
                 rotate_left
                 ·simp only [Act.put, List.setIfInBounds_toArray, List.set_cons_zero, List.set_cons_succ, i64_w, i32_w]
                  rfl
                 refine done_ (done_of HT_.out (by kernel_rfl)) ?_
                 try go_wp2
                 go_roundg k1
                 case measure => have := HK1.out; omega
                 case rel => exact ⟨(wrap64 (x6_1 + 1)), (x221000_1), (by first | rfl | (simp; done) | (simp [*]; done)), H', ⟨by have := HK1.out; omega⟩, ⟨by (with_reducible repeat (first | apply Kd.R_alloc | apply Kd.R_drewN | apply Kd.R_drew)); exact Kd.R_mono HO_4.out (fun _ hk => trivial)⟩, ⟨by (with_reducible repeat (first | apply bn | apply bd | apply ba)); exact BK202.out⟩, ⟨by (with_reducible repeat (first | apply bn | apply bd | apply ba)); exact BK220.out⟩, ⟨by repeat (first | (with_reducible first | exact HB.out | apply wa | apply wn | apply wd | refine ws ‹_› ?_) | exact HB.out)⟩⟩
               ·rw [if_neg c40] at H
                exact absurd H (by simp)
              ·rw [if_neg c39] at H
               exact absurd H (by simp)
             ·rw [if_neg c38] at H
              exact absurd H (by simp)
            ·rw [if_neg c36] at H
             have c36b0 : decide (x6_1 < (t221.length : Int)) = false := decide_eq_false c36
             clear c36
             by_cases c54 : a0.toList = ([] : List UInt8)
             ·rw [if_pos c54] at H
              have c54b0 : (a0.toList == ([] : List UInt8)) = true := beq_iff_eq.mpr c54
              have c54b1 : (a0.toList != ([] : List UInt8)) = false := bne_eq_false_iff_eq.mpr c54
              clear c54
              simp only [Option.some.injEq, Prod.mk.injEq] at H
              obtain ⟨rfl, rfl, rfl, rfl, rfl, rfl, rfl, rfl, rfl⟩ := H
              go_wp2_with (first | ((with_reducible refine gate_callee (f := 44) rfl ?_); refine goesL_ (some 47) rfl rfl Tryd.func44 (by kernel_rfl) rfl #[] rfl (by (try simp only [List.map_toArray, List.map_cons, List.map_nil]); first | done | rfl | (simp only [List.length_drop, List.length_take]; rfl)) ?_; (with_reducible refine (spec_l2Names.calls  t221 _ A35.out).mono ?_); rintro e w55 ⟨v222, rfl, ho0, hb⟩; refine ⟨_, rfl, ?_⟩; have HO223 := az (Kd.R_lower (Kd.R_new' ho0 (Kd.R_lt (by (with_reducible repeat (first | apply Kd.R_alloc | apply Kd.R_drewN | apply Kd.R_drew)); exact HO_4.out))) (below_size (by repeat (first | (with_reducible first | exact HB.out | apply wa | apply wn | apply wd | refine ws ‹_› ?_) | exact HB.out)))); replace HO_4 := az (Kd.R_elder' (by (with_reducible repeat (first | apply Kd.R_alloc | apply Kd.R_drewN | apply Kd.R_drew)); exact HO_4.out) (Kd.R_base ho0) hb); replace BK202 := bb BK202 (fun h => by (with_reducible repeat (first | apply bn | apply bd | apply ba)); exact h) hb; replace BK220 := bb BK220 (fun h => by (with_reducible repeat (first | apply bn | apply bd | apply ba)); exact h) hb; replace HB := az (below_step (by repeat (first | (with_reducible first | exact HB.out | apply wa | apply wn | apply wd | refine ws ‹_› ?_) | exact HB.out)) hb); (try clear hb); (try clear hb2); (try clear hk); (try clear hi); (try clear ho0); obtain ⟨Ao56, co56, eo56⟩ := Kd.R_slice HO223.out; subst eo56; have hnb57 := NB202_220.out; have hnc57 := NB220_202.out; obtain ⟨hcz58_0, hcz58_1, hcz58_2, hcz58_3, hcz58_4, hcz58_5, hcz58_6, hcz58_7⟩ := cz8 BK202; obtain ⟨hfz58_0, hfz58_1, hfz58_2, hfz58_3, hfz58_4, hfz58_5, hfz58_6⟩ := fz7 BK202; have hfz58_7 := blk_frozen BK202.out 7))
              refine bodyPost_ret (results_ct rfl _ _ gb202 37 #[.int .i64 0, .int .i64 0, .int .i64 0, .int .i64 0, .int .i64 0, .int .i64 0, .int .i64 0, .int .i64 0] (0, 0) _ rfl (by (with_reducible repeat (first | apply bn | apply bd | apply ba)); exact p8 BK202) Tryd.underlying37 rfl (by kernel_rfl)) rfl ?_
              exact ⟨by first | rfl | (simp [errW_none, errW_some] <;> rfl) | (simp [*, errW_none, errW_some] <;> rfl), by repeat (first | (with_reducible first | exact HB.out | apply wa | apply wn | apply wd | refine ws ‹_› ?_) | exact HB.out)⟩
             ·rw [if_neg c54] at H
              have c54b0 : (a0.toList == ([] : List UInt8)) = false := beq_eq_false_iff_ne.mpr c54
              have c54b1 : (a0.toList != ([] : List UInt8)) = true := bne_iff_ne.mpr c54
              replace H := Option.bind_eq_some_iff.mp H
              obtain ⟨t229, A590, H⟩ := H
              replace H : (if t229.toList = a0.toList then (some (x221000_1, t207, t209, t211, t213, t215, t217, t219, true)) else (some (0, 0, 0, 0, 0, 0, 0, 0, false))) = some (r1, r2, r3, r4, r5, r6, r7, r8, r9) := H
              have A59 := az A590
              clear A590
              by_cases c60 : t229.toList = a0.toList
              ·rw [if_pos c60] at H
               have c60b0 : (t229.toList == a0.toList) = true := beq_iff_eq.mpr c60
               have c60b1 : (t229.toList != a0.toList) = false := bne_eq_false_iff_eq.mpr c60
               clear c60
               simp only [Option.some.injEq, Prod.mk.injEq] at H
               obtain ⟨rfl, rfl, rfl, rfl, rfl, rfl, rfl, rfl, rfl⟩ := H
               go_wp2_with (first | ((with_reducible refine gate_callee (f := 44) rfl ?_); refine goesL_ (some 47) rfl rfl Tryd.func44 (by kernel_rfl) rfl #[] rfl (by (try simp only [List.map_toArray, List.map_cons, List.map_nil]); first | done | rfl | (simp only [List.length_drop, List.length_take]; rfl)) ?_; (with_reducible refine (spec_l2Names.calls  t221 _ A35.out).mono ?_); rintro e w61 ⟨v222, rfl, ho0, hb⟩; refine ⟨_, rfl, ?_⟩; have HO223 := az (Kd.R_lower (Kd.R_new' ho0 (Kd.R_lt (by (with_reducible repeat (first | apply Kd.R_alloc | apply Kd.R_drewN | apply Kd.R_drew)); exact HO_4.out))) (below_size (by repeat (first | (with_reducible first | exact HB.out | apply wa | apply wn | apply wd | refine ws ‹_› ?_) | exact HB.out)))); replace HO_4 := az (Kd.R_elder' (by (with_reducible repeat (first | apply Kd.R_alloc | apply Kd.R_drewN | apply Kd.R_drew)); exact HO_4.out) (Kd.R_base ho0) hb); replace BK202 := bb BK202 (fun h => by (with_reducible repeat (first | apply bn | apply bd | apply ba)); exact h) hb; replace BK220 := bb BK220 (fun h => by (with_reducible repeat (first | apply bn | apply bd | apply ba)); exact h) hb; replace HB := az (below_step (by repeat (first | (with_reducible first | exact HB.out | apply wa | apply wn | apply wd | refine ws ‹_› ?_) | exact HB.out)) hb); (try clear hb); (try clear hb2); (try clear hk); (try clear hi); (try clear ho0); obtain ⟨Ao62, co62, eo62⟩ := Kd.R_slice HO223.out; subst eo62; have hnb63 := NB220_202.out; have hnc63 := NB202_220.out; obtain ⟨hcz64_0, hcz64_1, hcz64_2, hcz64_3, hcz64_4, hcz64_5, hcz64_6, hcz64_7⟩ := cz8 BK220; obtain ⟨hfz64_0, hfz64_1, hfz64_2, hfz64_3, hfz64_4, hfz64_5, hfz64_6⟩ := fz7 BK220; have hfz64_7 := blk_frozen BK220.out 7) | (go_at_call 20; (with_reducible refine (spec_RecText.calls k1 x221000_1 t207 t209 t211 t213 t215 t217 t219 t229 _ A59.out).mono ?_); rintro e w65 ⟨rfl, hb⟩; replace HO_4 := az (Kd.R_below (by (with_reducible repeat (first | apply Kd.R_alloc | apply Kd.R_drewN | apply Kd.R_drew)); exact HO_4.out) hb); replace HO223 := az (Kd.R_below (by (with_reducible repeat (first | apply Kd.R_alloc | apply Kd.R_drewN | apply Kd.R_drew)); exact HO223.out) hb); replace BK202 := bb BK202 (fun h => by (with_reducible repeat (first | apply bn | apply bd | apply ba)); exact h) hb; replace BK220 := bb BK220 (fun h => by (with_reducible repeat (first | apply bn | apply bd | apply ba)); exact h) hb; replace HB := az (below_step (by repeat (first | (with_reducible first | exact HB.out | apply wa | apply wn | apply wd | refine ws ‹_› ?_) | exact HB.out)) hb); (try clear hb); (try clear hb2); (try clear hk); (try clear hi); obtain ⟨hcz66_0, hcz66_1, hcz66_2, hcz66_3, hcz66_4, hcz66_5, hcz66_6, hcz66_7⟩ := cz8 BK220; obtain ⟨hfz66_0, hfz66_1, hfz66_2, hfz66_3, hfz66_4, hfz66_5, hfz66_6, hfz66_7⟩ := fz8 BK220; obtain ⟨hcz67_0, hcz67_1, hcz67_2, hcz67_3, hcz67_4, hcz67_5, hcz67_6, hcz67_7⟩ := cz8 BK202; obtain ⟨hfz67_0, hfz67_1, hfz67_2, hfz67_3, hfz67_4, hfz67_5, hfz67_6⟩ := fz7 BK202; have hfz67_7 := blk_frozen BK202.out 7))
               refine bodyPost_ret (results_ct rfl _ _ gb202 37 #[.int .i64 x221000_1, .int .i64 t207, .int .i64 t209, .int .i64 t211, .int .i64 t213, .int .i64 t215, .int .i64 t217, .int .i64 t219] (0, 0) _ rfl (by (with_reducible repeat (first | apply bn | apply bd | apply ba)); exact p8 BK202) Tryd.underlying37 rfl (by kernel_rfl)) rfl ?_
               exact ⟨by first | rfl | (simp [errW_none, errW_some] <;> rfl) | (simp [*, errW_none, errW_some] <;> rfl), by repeat (first | (with_reducible first | exact HB.out | apply wa | apply wn | apply wd | refine ws ‹_› ?_) | exact HB.out)⟩
              ·rw [if_neg c60] at H
               have c60b0 : (t229.toList == a0.toList) = false := beq_eq_false_iff_ne.mpr c60
               have c60b1 : (t229.toList != a0.toList) = true := bne_iff_ne.mpr c60
               simp only [Option.some.injEq, Prod.mk.injEq] at H
               obtain ⟨rfl, rfl, rfl, rfl, rfl, rfl, rfl, rfl, rfl⟩ := H
               go_wp2_with (first | ((with_reducible refine gate_callee (f := 44) rfl ?_); refine goesL_ (some 47) rfl rfl Tryd.func44 (by kernel_rfl) rfl #[] rfl (by (try simp only [List.map_toArray, List.map_cons, List.map_nil]); first | done | rfl | (simp only [List.length_drop, List.length_take]; rfl)) ?_; (with_reducible refine (spec_l2Names.calls  t221 _ A35.out).mono ?_); rintro e w68 ⟨v222, rfl, ho0, hb⟩; refine ⟨_, rfl, ?_⟩; have HO223 := az (Kd.R_lower (Kd.R_new' ho0 (Kd.R_lt (by (with_reducible repeat (first | apply Kd.R_alloc | apply Kd.R_drewN | apply Kd.R_drew)); exact HO_4.out))) (below_size (by repeat (first | (with_reducible first | exact HB.out | apply wa | apply wn | apply wd | refine ws ‹_› ?_) | exact HB.out)))); replace HO_4 := az (Kd.R_elder' (by (with_reducible repeat (first | apply Kd.R_alloc | apply Kd.R_drewN | apply Kd.R_drew)); exact HO_4.out) (Kd.R_base ho0) hb); replace BK202 := bb BK202 (fun h => by (with_reducible repeat (first | apply bn | apply bd | apply ba)); exact h) hb; replace BK220 := bb BK220 (fun h => by (with_reducible repeat (first | apply bn | apply bd | apply ba)); exact h) hb; replace HB := az (below_step (by repeat (first | (with_reducible first | exact HB.out | apply wa | apply wn | apply wd | refine ws ‹_› ?_) | exact HB.out)) hb); (try clear hb); (try clear hb2); (try clear hk); (try clear hi); (try clear ho0); obtain ⟨Ao69, co69, eo69⟩ := Kd.R_slice HO223.out; subst eo69; have hnb70 := NB220_202.out; have hnc70 := NB202_220.out; obtain ⟨hcz71_0, hcz71_1, hcz71_2, hcz71_3, hcz71_4, hcz71_5, hcz71_6, hcz71_7⟩ := cz8 BK220; obtain ⟨hfz71_0, hfz71_1, hfz71_2, hfz71_3, hfz71_4, hfz71_5, hfz71_6⟩ := fz7 BK220; have hfz71_7 := blk_frozen BK220.out 7) | (go_at_call 20; (with_reducible refine (spec_RecText.calls k1 x221000_1 t207 t209 t211 t213 t215 t217 t219 t229 _ A59.out).mono ?_); rintro e w72 ⟨rfl, hb⟩; replace HO_4 := az (Kd.R_below (by (with_reducible repeat (first | apply Kd.R_alloc | apply Kd.R_drewN | apply Kd.R_drew)); exact HO_4.out) hb); replace HO223 := az (Kd.R_below (by (with_reducible repeat (first | apply Kd.R_alloc | apply Kd.R_drewN | apply Kd.R_drew)); exact HO223.out) hb); replace BK202 := bb BK202 (fun h => by (with_reducible repeat (first | apply bn | apply bd | apply ba)); exact h) hb; replace BK220 := bb BK220 (fun h => by (with_reducible repeat (first | apply bn | apply bd | apply ba)); exact h) hb; replace HB := az (below_step (by repeat (first | (with_reducible first | exact HB.out | apply wa | apply wn | apply wd | refine ws ‹_› ?_) | exact HB.out)) hb); (try clear hb); (try clear hb2); (try clear hk); (try clear hi); obtain ⟨hcz73_0, hcz73_1, hcz73_2, hcz73_3, hcz73_4, hcz73_5, hcz73_6, hcz73_7⟩ := cz8 BK202; obtain ⟨hfz73_0, hfz73_1, hfz73_2, hfz73_3, hfz73_4, hfz73_5, hfz73_6⟩ := fz7 BK202; have hfz73_7 := blk_frozen BK202.out 7))
               refine bodyPost_ret (results_ct rfl _ _ gb202 37 #[.int .i64 0, .int .i64 0, .int .i64 0, .int .i64 0, .int .i64 0, .int .i64 0, .int .i64 0, .int .i64 0] (0, 0) _ rfl (by (with_reducible repeat (first | apply bn | apply bd | apply ba)); exact p8 BK202) Tryd.underlying37 rfl (by kernel_rfl)) rfl ?_
               exact ⟨by first | rfl | (simp [errW_none, errW_some] <;> rfl) | (simp [*, errW_none, errW_some] <;> rfl), by repeat (first | (with_reducible first | exact HB.out | apply wa | apply wn | apply wd | refine ws ‹_› ?_) | exact HB.out)⟩
         ·rw [if_neg c19] at H
          exact absurd H (by simp)
        ·rw [if_neg c17] at H
         exact absurd H (by simp)
       ·rw [if_neg c15] at H
        exact absurd H (by simp)
      ·rw [if_neg c13] at H
       exact absurd H (by simp)
     ·rw [if_neg c11] at H
      exact absurd H (by simp)
    ·rw [if_neg c9] at H
     exact absurd H (by simp)
   ·rw [if_neg c7] at H
    exact absurd H (by simp)
  ·rw [if_neg c6] at H
   have c6b0 : ((t203.length : Int) == 8) = false := beq_eq_false_iff_ne.mpr c6
   have c6b1 : ((t203.length : Int) != 8) = true := bne_iff_ne.mpr c6
   simp only [Option.some.injEq, Prod.mk.injEq] at H
   obtain ⟨rfl, rfl, rfl, rfl, rfl, rfl, rfl, rfl, rfl⟩ := H
   go_enter Tryd.func27, Tryd.ntmps27
   go_wp2_with (first | ((with_reducible refine gate_dst (N := 2) rfl ?_); refine box_event ?hg (N := 2) ?hd (cs := #[.int .i64 0, .int .i64 0, .int .i64 0, .int .i64 0, .int .i64 0, .int .i64 0, .int .i64 0, .int .i64 0]) (t := 37) ?hr ?_; (case hd => rfl); (case hg => rfl); (case hr => first | (go_simp; done) | (go_simp; rfl)); intro gb202 hg w74 hbox hb; have BK202 := az (hbox); have GW202 := az ((by rw [hg]; exact (below_size (by repeat (first | (with_reducible first | exact HB.out | apply wa | apply wn | apply wd) | exact HB.out))) : w.heap.size ≤ gb202)); have GE202 := GW202; replace HB := az (below_step (by repeat (first | (with_reducible first | exact HB.out | apply wa | apply wn | apply wd) | exact HB.out)) hb); clear hb hbox hg) | ((with_reducible refine gate_callee (f := 54) rfl ?_); refine goesL_ (some 12) rfl rfl Tryd.func54 (by kernel_rfl) rfl #[.string a0] rfl (by (try simp only [List.map_toArray, List.map_cons, List.map_nil]); first | done | rfl | (simp only [List.length_drop, List.length_take]; rfl)) ?_; (with_reducible refine (spec_l2Cut.calls k a0 t203 _ A5.out).mono ?_); rintro e w75 ⟨v204, rfl, ho0, hb⟩; refine ⟨_, rfl, ?_⟩; have HO205 := az (Kd.R_lower ho0 (below_size (by repeat (first | (with_reducible first | exact HB.out | apply wa | apply wn | apply wd | refine ws ‹_› ?_) | exact HB.out)))); replace BK202 := bb BK202 (fun h => by (with_reducible repeat (first | apply bn | apply bd | apply ba)); exact h) hb; replace HB := az (below_step (by repeat (first | (with_reducible first | exact HB.out | apply wa | apply wn | apply wd | refine ws ‹_› ?_) | exact HB.out)) hb); (try clear hb); (try clear hb2); (try clear hk); (try clear hi); (try clear ho0); obtain ⟨Ao76, co76, eo76⟩ := Kd.R_slice HO205.out; subst eo76; obtain ⟨hcz77_0, hcz77_1, hcz77_2, hcz77_3, hcz77_4, hcz77_5, hcz77_6, hcz77_7⟩ := cz8 BK202; obtain ⟨hfz77_0, hfz77_1, hfz77_2, hfz77_3, hfz77_4, hfz77_5, hfz77_6⟩ := fz7 BK202; have hfz77_7 := blk_frozen BK202.out 7))
   refine bodyPost_ret (results_ct rfl _ _ gb202 37 #[.int .i64 0, .int .i64 0, .int .i64 0, .int .i64 0, .int .i64 0, .int .i64 0, .int .i64 0, .int .i64 0] (0, 0) _ rfl (by (with_reducible repeat (first | apply bn | apply bd | apply ba)); exact p8 BK202) Tryd.underlying37 rfl (by kernel_rfl)) rfl ?_
   exact ⟨by first | rfl | (simp [errW_none, errW_some] <;> rfl) | (simp [*, errW_none, errW_some] <;> rfl), by repeat (first | (with_reducible first | exact HB.out | apply wa | apply wn | apply wd | refine ws ‹_› ?_) | exact HB.out)⟩


end Go.Proofs.YtajdjoggflagdaaDoor.Pr
