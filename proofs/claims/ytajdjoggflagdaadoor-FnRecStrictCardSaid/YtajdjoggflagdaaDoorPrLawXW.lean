-- Laid by a program (extract.py) out of this seat's translation: contracts of a few functions, a text a function; Lean checks them.
import Derived.Test.YtajdjoggflagdaaDoorPrK
import Derived.Test.YtajdjoggflagdaaDoorPrSR
import Derived.Test.YtajdjoggflagdaaDoorRRx
import Derived.Test.YtajdjoggflagdaaDoorSq
namespace Go.Proofs.YtajdjoggflagdaaDoor.Pr
open Go.RowKit Go.Proofs.YtajdjoggflagdaaDoorW.PrintWords Go.Proofs.YtajdjoggflagdaaDoorW.PrintLast Go.Proofs.YtajdjoggflagdaaDoorW.PrintMore
attribute [local go_sem] max2_int min2_int max_two min_two max_three min_three max_four min_four
set_option linter.unusedVariables false
set_option linter.unusedSimpArgs false
/-! ### laws_eqRec: function 28 -/
def laws_eqRec.f (a0_0 : Int) (a0_1 : Int) (a0_2 : Int) (a0_3 : Int) (a0_4 : Int) (a0_5 : Int) (a0_6 : Int) (a0_7 : Int) (a1_0 : Int) (a1_1 : Int) (a1_2 : Int) (a1_3 : Int) (a1_4 : Int) (a1_5 : Int) (a1_6 : Int) (a1_7 : Int) : Option (Bool) := if a0_0 = a1_0 then (if a0_1 = a1_1 then (if a0_2 = a1_2 then (if a0_3 = a1_3 then (if a0_4 = a1_4 then (if a0_5 = a1_5 then (if a0_6 = a1_6 then (if a0_7 = a1_7 then (some true) else (some false)) else (some false)) else (some false)) else (some false)) else (some false)) else (some false)) else (some false)) else (some false)
set_option maxHeartbeats 8000000 in
set_option maxRecDepth 100000 in
theorem laws_eqRec.calls (a0_0 : Int) (a0_1 : Int) (a0_2 : Int) (a0_3 : Int) (a0_4 : Int) (a0_5 : Int) (a0_6 : Int) (a0_7 : Int) (a1_0 : Int) (a1_1 : Int) (a1_2 : Int) (a1_3 : Int) (a1_4 : Int) (a1_5 : Int) (a1_6 : Int) (a1_7 : Int) (r : Bool) (w : World) (h : laws_eqRec.f a0_0 a0_1 a0_2 a0_3 a0_4 a0_5 a0_6 a0_7 a1_0 a1_1 a1_2 a1_3 a1_4 a1_5 a1_6 a1_7 = some r) :
  Calls Tryd.prog 28 #[.agg #[.int .i64 a0_0, .int .i64 a0_1, .int .i64 a0_2, .int .i64 a0_3, .int .i64 a0_4, .int .i64 a0_5, .int .i64 a0_6, .int .i64 a0_7], .agg #[.int .i64 a1_0, .int .i64 a1_1, .int .i64 a1_2, .int .i64 a1_3, .int .i64 a1_4, .int .i64 a1_5, .int .i64 a1_6, .int .i64 a1_7]] w fun e w' => e = .returned (.bool r) ∧ Below w.heap.size w w' := by
 have hu37 := Tryd.underlying37
 have HB := az (Below.refl w.heap.size w)
 have H : (if a0_0 = a1_0 then (if a0_1 = a1_1 then (if a0_2 = a1_2 then (if a0_3 = a1_3 then (if a0_4 = a1_4 then (if a0_5 = a1_5 then (if a0_6 = a1_6 then (if a0_7 = a1_7 then (some true) else (some false)) else (some false)) else (some false)) else (some false)) else (some false)) else (some false)) else (some false)) else (some false)) = some r := h
 clear h
 by_cases c3 : a0_0 = a1_0
 ·rw [if_pos c3] at H
  have c3b0 : (a0_0 == a1_0) = true := beq_iff_eq.mpr c3
  have c3b1 : (a0_0 != a1_0) = false := bne_eq_false_iff_eq.mpr c3
  clear c3
  by_cases c4 : a0_1 = a1_1
  ·rw [if_pos c4] at H
   have c4b0 : (a0_1 == a1_1) = true := beq_iff_eq.mpr c4
   have c4b1 : (a0_1 != a1_1) = false := bne_eq_false_iff_eq.mpr c4
   clear c4
   by_cases c5 : a0_2 = a1_2
   ·rw [if_pos c5] at H
    have c5b0 : (a0_2 == a1_2) = true := beq_iff_eq.mpr c5
    have c5b1 : (a0_2 != a1_2) = false := bne_eq_false_iff_eq.mpr c5
    clear c5
    by_cases c6 : a0_3 = a1_3
    ·rw [if_pos c6] at H
     have c6b0 : (a0_3 == a1_3) = true := beq_iff_eq.mpr c6
     have c6b1 : (a0_3 != a1_3) = false := bne_eq_false_iff_eq.mpr c6
     clear c6
     by_cases c7 : a0_4 = a1_4
     ·rw [if_pos c7] at H
      have c7b0 : (a0_4 == a1_4) = true := beq_iff_eq.mpr c7
      have c7b1 : (a0_4 != a1_4) = false := bne_eq_false_iff_eq.mpr c7
      clear c7
      by_cases c8 : a0_5 = a1_5
      ·rw [if_pos c8] at H
       have c8b0 : (a0_5 == a1_5) = true := beq_iff_eq.mpr c8
       have c8b1 : (a0_5 != a1_5) = false := bne_eq_false_iff_eq.mpr c8
       clear c8
       by_cases c9 : a0_6 = a1_6
       ·rw [if_pos c9] at H
        have c9b0 : (a0_6 == a1_6) = true := beq_iff_eq.mpr c9
        have c9b1 : (a0_6 != a1_6) = false := bne_eq_false_iff_eq.mpr c9
        clear c9
        by_cases c10 : a0_7 = a1_7
        ·rw [if_pos c10] at H
         have c10b0 : (a0_7 == a1_7) = true := beq_iff_eq.mpr c10
         have c10b1 : (a0_7 != a1_7) = false := bne_eq_false_iff_eq.mpr c10
         clear c10
         obtain rfl := Option.some.inj H
         go_enter Tryd.func28, Tryd.ntmps28
         go_wp2_with (first | ((with_reducible refine gate_dst (N := 2) rfl ?_); refine box_event ?hg (N := 2) ?hd (cs := #[.int .i64 a0_0, .int .i64 a0_1, .int .i64 a0_2, .int .i64 a0_3, .int .i64 a0_4, .int .i64 a0_5, .int .i64 a0_6, .int .i64 a0_7]) (t := 37) ?hr ?_; (case hd => rfl); (case hg => rfl); (case hr => first | (go_simp; done) | (go_simp; rfl)); intro gb326 hg w11 hbox hb; have BK326 := az (hbox); have GW326 := az ((by rw [hg]; exact (below_size (by repeat (first | (with_reducible first | exact HB.out | apply wa | apply wn | apply wd) | exact HB.out))) : w.heap.size ≤ gb326)); have GE326 := GW326; replace HB := az (below_step (by repeat (first | (with_reducible first | exact HB.out | apply wa | apply wn | apply wd) | exact HB.out)) hb); clear hb hbox hg) | ((with_reducible refine gate_dst (N := 3) rfl ?_); refine box_event ?hg (N := 3) ?hd (cs := #[.int .i64 a1_0, .int .i64 a1_1, .int .i64 a1_2, .int .i64 a1_3, .int .i64 a1_4, .int .i64 a1_5, .int .i64 a1_6, .int .i64 a1_7]) (t := 37) ?hr ?_; (case hd => rfl); (case hg => rfl); (case hr => first | (go_simp; done) | (go_simp; rfl)); intro gb327 hg w12 hbox hb; have BK327 := az (hbox); have GW327 := az ((by rw [hg]; exact (below_size (by repeat (first | (with_reducible first | exact HB.out | apply wa | apply wn | apply wd | refine ws ‹_› ?_) | exact HB.out))) : w.heap.size ≤ gb327)); have GE327 := GW327; replace HB := az (below_step (by repeat (first | (with_reducible first | exact HB.out | apply wa | apply wn | apply wd | refine ws ‹_› ?_) | exact HB.out)) hb); obtain ⟨NB326_327, NB327_326⟩ := nb BK326 hg (fun h => by (with_reducible repeat (first | apply bn | apply bd | apply ba)); exact h); replace BK326 := bb BK326 (fun h => by (with_reducible repeat (first | apply bn | apply bd | apply ba)); exact h) hb; clear hb hbox hg; have hnb13 := NB326_327.out; have hnc13 := NB327_326.out; obtain ⟨hcz14_0, hcz14_1, hcz14_2, hcz14_3, hcz14_4, hcz14_5, hcz14_6, hcz14_7⟩ := cz8 BK326; obtain ⟨hfz14_0, hfz14_1, hfz14_2, hfz14_3, hfz14_4, hfz14_5, hfz14_6, hfz14_7⟩ := fz8 BK326; obtain ⟨hcz15_0, hcz15_1, hcz15_2, hcz15_3, hcz15_4, hcz15_5, hcz15_6, hcz15_7⟩ := cz8 BK327; obtain ⟨hfz15_0, hfz15_1, hfz15_2, hfz15_3, hfz15_4, hfz15_5, hfz15_6⟩ := fz7 BK327; have hfz15_7 := blk_frozen BK327.out 7))
         go_ret
         exact ⟨by first | rfl | (simp [errW_none, errW_some] <;> rfl) | (simp [*, errW_none, errW_some] <;> rfl), by repeat (first | (with_reducible first | exact HB.out | apply wa | apply wn | apply wd | refine ws ‹_› ?_) | exact HB.out)⟩
        ·rw [if_neg c10] at H
         have c10b0 : (a0_7 == a1_7) = false := beq_eq_false_iff_ne.mpr c10
         have c10b1 : (a0_7 != a1_7) = true := bne_iff_ne.mpr c10
         obtain rfl := Option.some.inj H
         go_enter Tryd.func28, Tryd.ntmps28
         go_wp2_with (first | ((with_reducible refine gate_dst (N := 2) rfl ?_); refine box_event ?hg (N := 2) ?hd (cs := #[.int .i64 a0_0, .int .i64 a0_1, .int .i64 a0_2, .int .i64 a0_3, .int .i64 a0_4, .int .i64 a0_5, .int .i64 a0_6, .int .i64 a0_7]) (t := 37) ?hr ?_; (case hd => rfl); (case hg => rfl); (case hr => first | (go_simp; done) | (go_simp; rfl)); intro gb326 hg w16 hbox hb; have BK326 := az (hbox); have GW326 := az ((by rw [hg]; exact (below_size (by repeat (first | (with_reducible first | exact HB.out | apply wa | apply wn | apply wd) | exact HB.out))) : w.heap.size ≤ gb326)); have GE326 := GW326; replace HB := az (below_step (by repeat (first | (with_reducible first | exact HB.out | apply wa | apply wn | apply wd) | exact HB.out)) hb); clear hb hbox hg) | ((with_reducible refine gate_dst (N := 3) rfl ?_); refine box_event ?hg (N := 3) ?hd (cs := #[.int .i64 a1_0, .int .i64 a1_1, .int .i64 a1_2, .int .i64 a1_3, .int .i64 a1_4, .int .i64 a1_5, .int .i64 a1_6, .int .i64 a1_7]) (t := 37) ?hr ?_; (case hd => rfl); (case hg => rfl); (case hr => first | (go_simp; done) | (go_simp; rfl)); intro gb327 hg w17 hbox hb; have BK327 := az (hbox); have GW327 := az ((by rw [hg]; exact (below_size (by repeat (first | (with_reducible first | exact HB.out | apply wa | apply wn | apply wd | refine ws ‹_› ?_) | exact HB.out))) : w.heap.size ≤ gb327)); have GE327 := GW327; replace HB := az (below_step (by repeat (first | (with_reducible first | exact HB.out | apply wa | apply wn | apply wd | refine ws ‹_› ?_) | exact HB.out)) hb); obtain ⟨NB326_327, NB327_326⟩ := nb BK326 hg (fun h => by (with_reducible repeat (first | apply bn | apply bd | apply ba)); exact h); replace BK326 := bb BK326 (fun h => by (with_reducible repeat (first | apply bn | apply bd | apply ba)); exact h) hb; clear hb hbox hg; have hnb18 := NB326_327.out; have hnc18 := NB327_326.out; obtain ⟨hcz19_0, hcz19_1, hcz19_2, hcz19_3, hcz19_4, hcz19_5, hcz19_6, hcz19_7⟩ := cz8 BK326; obtain ⟨hfz19_0, hfz19_1, hfz19_2, hfz19_3, hfz19_4, hfz19_5, hfz19_6, hfz19_7⟩ := fz8 BK326; obtain ⟨hcz20_0, hcz20_1, hcz20_2, hcz20_3, hcz20_4, hcz20_5, hcz20_6, hcz20_7⟩ := cz8 BK327; obtain ⟨hfz20_0, hfz20_1, hfz20_2, hfz20_3, hfz20_4, hfz20_5, hfz20_6⟩ := fz7 BK327; have hfz20_7 := blk_frozen BK327.out 7))
         go_ret
         exact ⟨by first | rfl | (simp [errW_none, errW_some] <;> rfl) | (simp [*, errW_none, errW_some] <;> rfl), by repeat (first | (with_reducible first | exact HB.out | apply wa | apply wn | apply wd | refine ws ‹_› ?_) | exact HB.out)⟩
       ·rw [if_neg c9] at H
        have c9b0 : (a0_6 == a1_6) = false := beq_eq_false_iff_ne.mpr c9
        have c9b1 : (a0_6 != a1_6) = true := bne_iff_ne.mpr c9
        obtain rfl := Option.some.inj H
        go_enter Tryd.func28, Tryd.ntmps28
        go_wp2_with (first | ((with_reducible refine gate_dst (N := 2) rfl ?_); refine box_event ?hg (N := 2) ?hd (cs := #[.int .i64 a0_0, .int .i64 a0_1, .int .i64 a0_2, .int .i64 a0_3, .int .i64 a0_4, .int .i64 a0_5, .int .i64 a0_6, .int .i64 a0_7]) (t := 37) ?hr ?_; (case hd => rfl); (case hg => rfl); (case hr => first | (go_simp; done) | (go_simp; rfl)); intro gb326 hg w21 hbox hb; have BK326 := az (hbox); have GW326 := az ((by rw [hg]; exact (below_size (by repeat (first | (with_reducible first | exact HB.out | apply wa | apply wn | apply wd) | exact HB.out))) : w.heap.size ≤ gb326)); have GE326 := GW326; replace HB := az (below_step (by repeat (first | (with_reducible first | exact HB.out | apply wa | apply wn | apply wd) | exact HB.out)) hb); clear hb hbox hg) | ((with_reducible refine gate_dst (N := 3) rfl ?_); refine box_event ?hg (N := 3) ?hd (cs := #[.int .i64 a1_0, .int .i64 a1_1, .int .i64 a1_2, .int .i64 a1_3, .int .i64 a1_4, .int .i64 a1_5, .int .i64 a1_6, .int .i64 a1_7]) (t := 37) ?hr ?_; (case hd => rfl); (case hg => rfl); (case hr => first | (go_simp; done) | (go_simp; rfl)); intro gb327 hg w22 hbox hb; have BK327 := az (hbox); have GW327 := az ((by rw [hg]; exact (below_size (by repeat (first | (with_reducible first | exact HB.out | apply wa | apply wn | apply wd | refine ws ‹_› ?_) | exact HB.out))) : w.heap.size ≤ gb327)); have GE327 := GW327; replace HB := az (below_step (by repeat (first | (with_reducible first | exact HB.out | apply wa | apply wn | apply wd | refine ws ‹_› ?_) | exact HB.out)) hb); obtain ⟨NB326_327, NB327_326⟩ := nb BK326 hg (fun h => by (with_reducible repeat (first | apply bn | apply bd | apply ba)); exact h); replace BK326 := bb BK326 (fun h => by (with_reducible repeat (first | apply bn | apply bd | apply ba)); exact h) hb; clear hb hbox hg; have hnb23 := NB326_327.out; have hnc23 := NB327_326.out; obtain ⟨hcz24_0, hcz24_1, hcz24_2, hcz24_3, hcz24_4, hcz24_5, hcz24_6, hcz24_7⟩ := cz8 BK326; obtain ⟨hfz24_0, hfz24_1, hfz24_2, hfz24_3, hfz24_4, hfz24_5, hfz24_6, hfz24_7⟩ := fz8 BK326; obtain ⟨hcz25_0, hcz25_1, hcz25_2, hcz25_3, hcz25_4, hcz25_5, hcz25_6, hcz25_7⟩ := cz8 BK327; obtain ⟨hfz25_0, hfz25_1, hfz25_2, hfz25_3, hfz25_4, hfz25_5, hfz25_6⟩ := fz7 BK327; have hfz25_7 := blk_frozen BK327.out 7))
        go_ret
        exact ⟨by first | rfl | (simp [errW_none, errW_some] <;> rfl) | (simp [*, errW_none, errW_some] <;> rfl), by repeat (first | (with_reducible first | exact HB.out | apply wa | apply wn | apply wd | refine ws ‹_› ?_) | exact HB.out)⟩
      ·rw [if_neg c8] at H
       have c8b0 : (a0_5 == a1_5) = false := beq_eq_false_iff_ne.mpr c8
       have c8b1 : (a0_5 != a1_5) = true := bne_iff_ne.mpr c8
       obtain rfl := Option.some.inj H
       go_enter Tryd.func28, Tryd.ntmps28
       go_wp2_with (first | ((with_reducible refine gate_dst (N := 2) rfl ?_); refine box_event ?hg (N := 2) ?hd (cs := #[.int .i64 a0_0, .int .i64 a0_1, .int .i64 a0_2, .int .i64 a0_3, .int .i64 a0_4, .int .i64 a0_5, .int .i64 a0_6, .int .i64 a0_7]) (t := 37) ?hr ?_; (case hd => rfl); (case hg => rfl); (case hr => first | (go_simp; done) | (go_simp; rfl)); intro gb326 hg w26 hbox hb; have BK326 := az (hbox); have GW326 := az ((by rw [hg]; exact (below_size (by repeat (first | (with_reducible first | exact HB.out | apply wa | apply wn | apply wd) | exact HB.out))) : w.heap.size ≤ gb326)); have GE326 := GW326; replace HB := az (below_step (by repeat (first | (with_reducible first | exact HB.out | apply wa | apply wn | apply wd) | exact HB.out)) hb); clear hb hbox hg) | ((with_reducible refine gate_dst (N := 3) rfl ?_); refine box_event ?hg (N := 3) ?hd (cs := #[.int .i64 a1_0, .int .i64 a1_1, .int .i64 a1_2, .int .i64 a1_3, .int .i64 a1_4, .int .i64 a1_5, .int .i64 a1_6, .int .i64 a1_7]) (t := 37) ?hr ?_; (case hd => rfl); (case hg => rfl); (case hr => first | (go_simp; done) | (go_simp; rfl)); intro gb327 hg w27 hbox hb; have BK327 := az (hbox); have GW327 := az ((by rw [hg]; exact (below_size (by repeat (first | (with_reducible first | exact HB.out | apply wa | apply wn | apply wd | refine ws ‹_› ?_) | exact HB.out))) : w.heap.size ≤ gb327)); have GE327 := GW327; replace HB := az (below_step (by repeat (first | (with_reducible first | exact HB.out | apply wa | apply wn | apply wd | refine ws ‹_› ?_) | exact HB.out)) hb); obtain ⟨NB326_327, NB327_326⟩ := nb BK326 hg (fun h => by (with_reducible repeat (first | apply bn | apply bd | apply ba)); exact h); replace BK326 := bb BK326 (fun h => by (with_reducible repeat (first | apply bn | apply bd | apply ba)); exact h) hb; clear hb hbox hg; have hnb28 := NB326_327.out; have hnc28 := NB327_326.out; obtain ⟨hcz29_0, hcz29_1, hcz29_2, hcz29_3, hcz29_4, hcz29_5, hcz29_6, hcz29_7⟩ := cz8 BK326; obtain ⟨hfz29_0, hfz29_1, hfz29_2, hfz29_3, hfz29_4, hfz29_5, hfz29_6, hfz29_7⟩ := fz8 BK326; obtain ⟨hcz30_0, hcz30_1, hcz30_2, hcz30_3, hcz30_4, hcz30_5, hcz30_6, hcz30_7⟩ := cz8 BK327; obtain ⟨hfz30_0, hfz30_1, hfz30_2, hfz30_3, hfz30_4, hfz30_5, hfz30_6⟩ := fz7 BK327; have hfz30_7 := blk_frozen BK327.out 7))
       go_ret
       exact ⟨by first | rfl | (simp [errW_none, errW_some] <;> rfl) | (simp [*, errW_none, errW_some] <;> rfl), by repeat (first | (with_reducible first | exact HB.out | apply wa | apply wn | apply wd | refine ws ‹_› ?_) | exact HB.out)⟩
     ·rw [if_neg c7] at H
      have c7b0 : (a0_4 == a1_4) = false := beq_eq_false_iff_ne.mpr c7
      have c7b1 : (a0_4 != a1_4) = true := bne_iff_ne.mpr c7
      obtain rfl := Option.some.inj H
      go_enter Tryd.func28, Tryd.ntmps28
      go_wp2_with (first | ((with_reducible refine gate_dst (N := 2) rfl ?_); refine box_event ?hg (N := 2) ?hd (cs := #[.int .i64 a0_0, .int .i64 a0_1, .int .i64 a0_2, .int .i64 a0_3, .int .i64 a0_4, .int .i64 a0_5, .int .i64 a0_6, .int .i64 a0_7]) (t := 37) ?hr ?_; (case hd => rfl); (case hg => rfl); (case hr => first | (go_simp; done) | (go_simp; rfl)); intro gb326 hg w31 hbox hb; have BK326 := az (hbox); have GW326 := az ((by rw [hg]; exact (below_size (by repeat (first | (with_reducible first | exact HB.out | apply wa | apply wn | apply wd) | exact HB.out))) : w.heap.size ≤ gb326)); have GE326 := GW326; replace HB := az (below_step (by repeat (first | (with_reducible first | exact HB.out | apply wa | apply wn | apply wd) | exact HB.out)) hb); clear hb hbox hg) | ((with_reducible refine gate_dst (N := 3) rfl ?_); refine box_event ?hg (N := 3) ?hd (cs := #[.int .i64 a1_0, .int .i64 a1_1, .int .i64 a1_2, .int .i64 a1_3, .int .i64 a1_4, .int .i64 a1_5, .int .i64 a1_6, .int .i64 a1_7]) (t := 37) ?hr ?_; (case hd => rfl); (case hg => rfl); (case hr => first | (go_simp; done) | (go_simp; rfl)); intro gb327 hg w32 hbox hb; have BK327 := az (hbox); have GW327 := az ((by rw [hg]; exact (below_size (by repeat (first | (with_reducible first | exact HB.out | apply wa | apply wn | apply wd | refine ws ‹_› ?_) | exact HB.out))) : w.heap.size ≤ gb327)); have GE327 := GW327; replace HB := az (below_step (by repeat (first | (with_reducible first | exact HB.out | apply wa | apply wn | apply wd | refine ws ‹_› ?_) | exact HB.out)) hb); obtain ⟨NB326_327, NB327_326⟩ := nb BK326 hg (fun h => by (with_reducible repeat (first | apply bn | apply bd | apply ba)); exact h); replace BK326 := bb BK326 (fun h => by (with_reducible repeat (first | apply bn | apply bd | apply ba)); exact h) hb; clear hb hbox hg; have hnb33 := NB326_327.out; have hnc33 := NB327_326.out; obtain ⟨hcz34_0, hcz34_1, hcz34_2, hcz34_3, hcz34_4, hcz34_5, hcz34_6, hcz34_7⟩ := cz8 BK326; obtain ⟨hfz34_0, hfz34_1, hfz34_2, hfz34_3, hfz34_4, hfz34_5, hfz34_6, hfz34_7⟩ := fz8 BK326; obtain ⟨hcz35_0, hcz35_1, hcz35_2, hcz35_3, hcz35_4, hcz35_5, hcz35_6, hcz35_7⟩ := cz8 BK327; obtain ⟨hfz35_0, hfz35_1, hfz35_2, hfz35_3, hfz35_4, hfz35_5, hfz35_6⟩ := fz7 BK327; have hfz35_7 := blk_frozen BK327.out 7))
      go_ret
      exact ⟨by first | rfl | (simp [errW_none, errW_some] <;> rfl) | (simp [*, errW_none, errW_some] <;> rfl), by repeat (first | (with_reducible first | exact HB.out | apply wa | apply wn | apply wd | refine ws ‹_› ?_) | exact HB.out)⟩
    ·rw [if_neg c6] at H
     have c6b0 : (a0_3 == a1_3) = false := beq_eq_false_iff_ne.mpr c6
     have c6b1 : (a0_3 != a1_3) = true := bne_iff_ne.mpr c6
     obtain rfl := Option.some.inj H
     go_enter Tryd.func28, Tryd.ntmps28
     go_wp2_with (first | ((with_reducible refine gate_dst (N := 2) rfl ?_); refine box_event ?hg (N := 2) ?hd (cs := #[.int .i64 a0_0, .int .i64 a0_1, .int .i64 a0_2, .int .i64 a0_3, .int .i64 a0_4, .int .i64 a0_5, .int .i64 a0_6, .int .i64 a0_7]) (t := 37) ?hr ?_; (case hd => rfl); (case hg => rfl); (case hr => first | (go_simp; done) | (go_simp; rfl)); intro gb326 hg w36 hbox hb; have BK326 := az (hbox); have GW326 := az ((by rw [hg]; exact (below_size (by repeat (first | (with_reducible first | exact HB.out | apply wa | apply wn | apply wd) | exact HB.out))) : w.heap.size ≤ gb326)); have GE326 := GW326; replace HB := az (below_step (by repeat (first | (with_reducible first | exact HB.out | apply wa | apply wn | apply wd) | exact HB.out)) hb); clear hb hbox hg) | ((with_reducible refine gate_dst (N := 3) rfl ?_); refine box_event ?hg (N := 3) ?hd (cs := #[.int .i64 a1_0, .int .i64 a1_1, .int .i64 a1_2, .int .i64 a1_3, .int .i64 a1_4, .int .i64 a1_5, .int .i64 a1_6, .int .i64 a1_7]) (t := 37) ?hr ?_; (case hd => rfl); (case hg => rfl); (case hr => first | (go_simp; done) | (go_simp; rfl)); intro gb327 hg w37 hbox hb; have BK327 := az (hbox); have GW327 := az ((by rw [hg]; exact (below_size (by repeat (first | (with_reducible first | exact HB.out | apply wa | apply wn | apply wd | refine ws ‹_› ?_) | exact HB.out))) : w.heap.size ≤ gb327)); have GE327 := GW327; replace HB := az (below_step (by repeat (first | (with_reducible first | exact HB.out | apply wa | apply wn | apply wd | refine ws ‹_› ?_) | exact HB.out)) hb); obtain ⟨NB326_327, NB327_326⟩ := nb BK326 hg (fun h => by (with_reducible repeat (first | apply bn | apply bd | apply ba)); exact h); replace BK326 := bb BK326 (fun h => by (with_reducible repeat (first | apply bn | apply bd | apply ba)); exact h) hb; clear hb hbox hg; have hnb38 := NB326_327.out; have hnc38 := NB327_326.out; obtain ⟨hcz39_0, hcz39_1, hcz39_2, hcz39_3, hcz39_4, hcz39_5, hcz39_6, hcz39_7⟩ := cz8 BK326; obtain ⟨hfz39_0, hfz39_1, hfz39_2, hfz39_3, hfz39_4, hfz39_5, hfz39_6, hfz39_7⟩ := fz8 BK326; obtain ⟨hcz40_0, hcz40_1, hcz40_2, hcz40_3, hcz40_4, hcz40_5, hcz40_6, hcz40_7⟩ := cz8 BK327; obtain ⟨hfz40_0, hfz40_1, hfz40_2, hfz40_3, hfz40_4, hfz40_5, hfz40_6⟩ := fz7 BK327; have hfz40_7 := blk_frozen BK327.out 7))
     go_ret
     exact ⟨by first | rfl | (simp [errW_none, errW_some] <;> rfl) | (simp [*, errW_none, errW_some] <;> rfl), by repeat (first | (with_reducible first | exact HB.out | apply wa | apply wn | apply wd | refine ws ‹_› ?_) | exact HB.out)⟩
   ·rw [if_neg c5] at H
    have c5b0 : (a0_2 == a1_2) = false := beq_eq_false_iff_ne.mpr c5
    have c5b1 : (a0_2 != a1_2) = true := bne_iff_ne.mpr c5
    obtain rfl := Option.some.inj H
    go_enter Tryd.func28, Tryd.ntmps28
    go_wp2_with (first | ((with_reducible refine gate_dst (N := 2) rfl ?_); refine box_event ?hg (N := 2) ?hd (cs := #[.int .i64 a0_0, .int .i64 a0_1, .int .i64 a0_2, .int .i64 a0_3, .int .i64 a0_4, .int .i64 a0_5, .int .i64 a0_6, .int .i64 a0_7]) (t := 37) ?hr ?_; (case hd => rfl); (case hg => rfl); (case hr => first | (go_simp; done) | (go_simp; rfl)); intro gb326 hg w41 hbox hb; have BK326 := az (hbox); have GW326 := az ((by rw [hg]; exact (below_size (by repeat (first | (with_reducible first | exact HB.out | apply wa | apply wn | apply wd) | exact HB.out))) : w.heap.size ≤ gb326)); have GE326 := GW326; replace HB := az (below_step (by repeat (first | (with_reducible first | exact HB.out | apply wa | apply wn | apply wd) | exact HB.out)) hb); clear hb hbox hg) | ((with_reducible refine gate_dst (N := 3) rfl ?_); refine box_event ?hg (N := 3) ?hd (cs := #[.int .i64 a1_0, .int .i64 a1_1, .int .i64 a1_2, .int .i64 a1_3, .int .i64 a1_4, .int .i64 a1_5, .int .i64 a1_6, .int .i64 a1_7]) (t := 37) ?hr ?_; (case hd => rfl); (case hg => rfl); (case hr => first | (go_simp; done) | (go_simp; rfl)); intro gb327 hg w42 hbox hb; have BK327 := az (hbox); have GW327 := az ((by rw [hg]; exact (below_size (by repeat (first | (with_reducible first | exact HB.out | apply wa | apply wn | apply wd | refine ws ‹_› ?_) | exact HB.out))) : w.heap.size ≤ gb327)); have GE327 := GW327; replace HB := az (below_step (by repeat (first | (with_reducible first | exact HB.out | apply wa | apply wn | apply wd | refine ws ‹_› ?_) | exact HB.out)) hb); obtain ⟨NB326_327, NB327_326⟩ := nb BK326 hg (fun h => by (with_reducible repeat (first | apply bn | apply bd | apply ba)); exact h); replace BK326 := bb BK326 (fun h => by (with_reducible repeat (first | apply bn | apply bd | apply ba)); exact h) hb; clear hb hbox hg; have hnb43 := NB326_327.out; have hnc43 := NB327_326.out; obtain ⟨hcz44_0, hcz44_1, hcz44_2, hcz44_3, hcz44_4, hcz44_5, hcz44_6, hcz44_7⟩ := cz8 BK326; obtain ⟨hfz44_0, hfz44_1, hfz44_2, hfz44_3, hfz44_4, hfz44_5, hfz44_6, hfz44_7⟩ := fz8 BK326; obtain ⟨hcz45_0, hcz45_1, hcz45_2, hcz45_3, hcz45_4, hcz45_5, hcz45_6, hcz45_7⟩ := cz8 BK327; obtain ⟨hfz45_0, hfz45_1, hfz45_2, hfz45_3, hfz45_4, hfz45_5, hfz45_6⟩ := fz7 BK327; have hfz45_7 := blk_frozen BK327.out 7))
    go_ret
    exact ⟨by first | rfl | (simp [errW_none, errW_some] <;> rfl) | (simp [*, errW_none, errW_some] <;> rfl), by repeat (first | (with_reducible first | exact HB.out | apply wa | apply wn | apply wd | refine ws ‹_› ?_) | exact HB.out)⟩
  ·rw [if_neg c4] at H
   have c4b0 : (a0_1 == a1_1) = false := beq_eq_false_iff_ne.mpr c4
   have c4b1 : (a0_1 != a1_1) = true := bne_iff_ne.mpr c4
   obtain rfl := Option.some.inj H
   go_enter Tryd.func28, Tryd.ntmps28
   go_wp2_with (first | ((with_reducible refine gate_dst (N := 2) rfl ?_); refine box_event ?hg (N := 2) ?hd (cs := #[.int .i64 a0_0, .int .i64 a0_1, .int .i64 a0_2, .int .i64 a0_3, .int .i64 a0_4, .int .i64 a0_5, .int .i64 a0_6, .int .i64 a0_7]) (t := 37) ?hr ?_; (case hd => rfl); (case hg => rfl); (case hr => first | (go_simp; done) | (go_simp; rfl)); intro gb326 hg w46 hbox hb; have BK326 := az (hbox); have GW326 := az ((by rw [hg]; exact (below_size (by repeat (first | (with_reducible first | exact HB.out | apply wa | apply wn | apply wd) | exact HB.out))) : w.heap.size ≤ gb326)); have GE326 := GW326; replace HB := az (below_step (by repeat (first | (with_reducible first | exact HB.out | apply wa | apply wn | apply wd) | exact HB.out)) hb); clear hb hbox hg) | ((with_reducible refine gate_dst (N := 3) rfl ?_); refine box_event ?hg (N := 3) ?hd (cs := #[.int .i64 a1_0, .int .i64 a1_1, .int .i64 a1_2, .int .i64 a1_3, .int .i64 a1_4, .int .i64 a1_5, .int .i64 a1_6, .int .i64 a1_7]) (t := 37) ?hr ?_; (case hd => rfl); (case hg => rfl); (case hr => first | (go_simp; done) | (go_simp; rfl)); intro gb327 hg w47 hbox hb; have BK327 := az (hbox); have GW327 := az ((by rw [hg]; exact (below_size (by repeat (first | (with_reducible first | exact HB.out | apply wa | apply wn | apply wd | refine ws ‹_› ?_) | exact HB.out))) : w.heap.size ≤ gb327)); have GE327 := GW327; replace HB := az (below_step (by repeat (first | (with_reducible first | exact HB.out | apply wa | apply wn | apply wd | refine ws ‹_› ?_) | exact HB.out)) hb); obtain ⟨NB326_327, NB327_326⟩ := nb BK326 hg (fun h => by (with_reducible repeat (first | apply bn | apply bd | apply ba)); exact h); replace BK326 := bb BK326 (fun h => by (with_reducible repeat (first | apply bn | apply bd | apply ba)); exact h) hb; clear hb hbox hg; have hnb48 := NB326_327.out; have hnc48 := NB327_326.out; obtain ⟨hcz49_0, hcz49_1, hcz49_2, hcz49_3, hcz49_4, hcz49_5, hcz49_6, hcz49_7⟩ := cz8 BK326; obtain ⟨hfz49_0, hfz49_1, hfz49_2, hfz49_3, hfz49_4, hfz49_5, hfz49_6, hfz49_7⟩ := fz8 BK326; obtain ⟨hcz50_0, hcz50_1, hcz50_2, hcz50_3, hcz50_4, hcz50_5, hcz50_6, hcz50_7⟩ := cz8 BK327; obtain ⟨hfz50_0, hfz50_1, hfz50_2, hfz50_3, hfz50_4, hfz50_5, hfz50_6⟩ := fz7 BK327; have hfz50_7 := blk_frozen BK327.out 7))
   go_ret
   exact ⟨by first | rfl | (simp [errW_none, errW_some] <;> rfl) | (simp [*, errW_none, errW_some] <;> rfl), by repeat (first | (with_reducible first | exact HB.out | apply wa | apply wn | apply wd | refine ws ‹_› ?_) | exact HB.out)⟩
 ·rw [if_neg c3] at H
  have c3b0 : (a0_0 == a1_0) = false := beq_eq_false_iff_ne.mpr c3
  have c3b1 : (a0_0 != a1_0) = true := bne_iff_ne.mpr c3
  obtain rfl := Option.some.inj H
  go_enter Tryd.func28, Tryd.ntmps28
  go_wp2_with (first | ((with_reducible refine gate_dst (N := 2) rfl ?_); refine box_event ?hg (N := 2) ?hd (cs := #[.int .i64 a0_0, .int .i64 a0_1, .int .i64 a0_2, .int .i64 a0_3, .int .i64 a0_4, .int .i64 a0_5, .int .i64 a0_6, .int .i64 a0_7]) (t := 37) ?hr ?_; (case hd => rfl); (case hg => rfl); (case hr => first | (go_simp; done) | (go_simp; rfl)); intro gb326 hg w51 hbox hb; have BK326 := az (hbox); have GW326 := az ((by rw [hg]; exact (below_size (by repeat (first | (with_reducible first | exact HB.out | apply wa | apply wn | apply wd) | exact HB.out))) : w.heap.size ≤ gb326)); have GE326 := GW326; replace HB := az (below_step (by repeat (first | (with_reducible first | exact HB.out | apply wa | apply wn | apply wd) | exact HB.out)) hb); clear hb hbox hg) | ((with_reducible refine gate_dst (N := 3) rfl ?_); refine box_event ?hg (N := 3) ?hd (cs := #[.int .i64 a1_0, .int .i64 a1_1, .int .i64 a1_2, .int .i64 a1_3, .int .i64 a1_4, .int .i64 a1_5, .int .i64 a1_6, .int .i64 a1_7]) (t := 37) ?hr ?_; (case hd => rfl); (case hg => rfl); (case hr => first | (go_simp; done) | (go_simp; rfl)); intro gb327 hg w52 hbox hb; have BK327 := az (hbox); have GW327 := az ((by rw [hg]; exact (below_size (by repeat (first | (with_reducible first | exact HB.out | apply wa | apply wn | apply wd | refine ws ‹_› ?_) | exact HB.out))) : w.heap.size ≤ gb327)); have GE327 := GW327; replace HB := az (below_step (by repeat (first | (with_reducible first | exact HB.out | apply wa | apply wn | apply wd | refine ws ‹_› ?_) | exact HB.out)) hb); obtain ⟨NB326_327, NB327_326⟩ := nb BK326 hg (fun h => by (with_reducible repeat (first | apply bn | apply bd | apply ba)); exact h); replace BK326 := bb BK326 (fun h => by (with_reducible repeat (first | apply bn | apply bd | apply ba)); exact h) hb; clear hb hbox hg; have hnb53 := NB326_327.out; have hnc53 := NB327_326.out; obtain ⟨hcz54_0, hcz54_1, hcz54_2, hcz54_3, hcz54_4, hcz54_5, hcz54_6, hcz54_7⟩ := cz8 BK326; obtain ⟨hfz54_0, hfz54_1, hfz54_2, hfz54_3, hfz54_4, hfz54_5, hfz54_6, hfz54_7⟩ := fz8 BK326; obtain ⟨hcz55_0, hcz55_1, hcz55_2, hcz55_3, hcz55_4, hcz55_5, hcz55_6, hcz55_7⟩ := cz8 BK327; obtain ⟨hfz55_0, hfz55_1, hfz55_2, hfz55_3, hfz55_4, hfz55_5, hfz55_6⟩ := fz7 BK327; have hfz55_7 := blk_frozen BK327.out 7))
  go_ret
  exact ⟨by first | rfl | (simp [errW_none, errW_some] <;> rfl) | (simp [*, errW_none, errW_some] <;> rfl), by repeat (first | (with_reducible first | exact HB.out | apply wa | apply wn | apply wd | refine ws ‹_› ?_) | exact HB.out)⟩



/-! ### laws_FnExactRecRead: function 10 -/
def laws_FnExactRecRead.f (k : Nat) (a0 : ByteArray) : Option (Bool) := if (a0.size : Int) > 1048576 then (some true) else ((spec_RecRead.f k a0).bind fun bt328 => ((impl_RecRead.f k a0).bind fun bt338 => ((laws_eqRec.f bt338.1 bt338.2.1 bt338.2.2.1 bt338.2.2.2.1 bt338.2.2.2.2.1 bt338.2.2.2.2.2.1 bt338.2.2.2.2.2.2.1 bt338.2.2.2.2.2.2.2.1 bt328.1 bt328.2.1 bt328.2.2.1 bt328.2.2.2.1 bt328.2.2.2.2.1 bt328.2.2.2.2.2.1 bt328.2.2.2.2.2.2.1 bt328.2.2.2.2.2.2.2.1).bind fun t348 => (if t348 = true then (if (bt338.2.2.2.2.2.2.2.2 != bt328.2.2.2.2.2.2.2.2) = true then (some false) else (some true)) else (some false)))))
set_option maxHeartbeats 8000000 in
set_option maxRecDepth 100000 in
theorem laws_FnExactRecRead.calls (k : Nat) (a0 : ByteArray) (r : Bool) (w : World) (hdoor : Door w) (h : laws_FnExactRecRead.f k a0 = some r) (hT_ : Aside0 (r = true)) :
  Calls Tryd.prog 10 #[.string a0] w fun e w' => e = .returned (.bool r) ∧ Below w.heap.size w w' := by
 have hu37 := Tryd.underlying37
 have HB := az (Below.refl w.heap.size w)
 have HD := az hdoor
 clear hdoor
 have H : (if (a0.size : Int) > 1048576 then (some true) else ((spec_RecRead.f k a0).bind fun bt328 => ((impl_RecRead.f k a0).bind fun bt338 => ((laws_eqRec.f bt338.1 bt338.2.1 bt338.2.2.1 bt338.2.2.2.1 bt338.2.2.2.2.1 bt338.2.2.2.2.2.1 bt338.2.2.2.2.2.2.1 bt338.2.2.2.2.2.2.2.1 bt328.1 bt328.2.1 bt328.2.2.1 bt328.2.2.2.1 bt328.2.2.2.2.1 bt328.2.2.2.2.2.1 bt328.2.2.2.2.2.2.1 bt328.2.2.2.2.2.2.2.1).bind fun t348 => (if t348 = true then (if (bt338.2.2.2.2.2.2.2.2 != bt328.2.2.2.2.2.2.2.2) = true then (some false) else (some true)) else (some false)))))) = some r := h
 clear h
 by_cases c2 : (a0.size : Int) > 1048576
 ·rw [if_pos c2] at H
  have c2b0 : decide (1048576 < (a0.size : Int)) = true := decide_eq_true c2
  have c2b1 : decide (1048576 < a0.size) = true := decide_eq_true (by omega)
  clear c2
  obtain rfl := Option.some.inj H
  go_enter Tryd.func10, Tryd.ntmps10
  go_wp2
  go_ret
  exact ⟨by first | rfl | (simp [errW_none, errW_some] <;> rfl) | (simp [*, errW_none, errW_some] <;> rfl), by repeat (first | (with_reducible first | exact HB.out | apply wa | apply wn | apply wd) | exact HB.out)⟩
 ·rw [if_neg c2] at H
  have c2b0 : decide (1048576 < (a0.size : Int)) = false := decide_eq_false c2
  have c2b1 : decide (1048576 < a0.size) = false := decide_eq_false (by omega)
  clear c2
  replace H := Option.bind_eq_some_iff.mp H
  obtain ⟨⟨t328, t329, t330, t331, t332, t333, t334, t335, t336⟩, A30, H⟩ := H
  replace H : ((impl_RecRead.f k a0).bind fun bt338 => ((laws_eqRec.f bt338.1 bt338.2.1 bt338.2.2.1 bt338.2.2.2.1 bt338.2.2.2.2.1 bt338.2.2.2.2.2.1 bt338.2.2.2.2.2.2.1 bt338.2.2.2.2.2.2.2.1 t328 t329 t330 t331 t332 t333 t334 t335).bind fun t348 => (if t348 = true then (if (bt338.2.2.2.2.2.2.2.2 != t336) = true then (some false) else (some true)) else (some false)))) = some r := H
  have A3 := az A30
  clear A30
  replace H := Option.bind_eq_some_iff.mp H
  obtain ⟨⟨t338, t339, t340, t341, t342, t343, t344, t345, t346⟩, A40, H⟩ := H
  replace H : ((laws_eqRec.f t338 t339 t340 t341 t342 t343 t344 t345 t328 t329 t330 t331 t332 t333 t334 t335).bind fun t348 => (if t348 = true then (if (t346 != t336) = true then (some false) else (some true)) else (some false))) = some r := H
  have A4 := az A40
  clear A40
  replace H := Option.bind_eq_some_iff.mp H
  obtain ⟨t348, A50, H⟩ := H
  replace H : (if t348 = true then (if (t346 != t336) = true then (some false) else (some true)) else (some false)) = some r := H
  have A5 := az A50
  clear A50
  by_cases c6 : t348 = true
  ·subst c6
   have H1 : (if (t346 != t336) = true then (some false) else (some true)) = some r := by rw [if_pos rfl] at H; exact H
   clear H
   have H := H1
   clear H1
   by_cases c7 : (t346 != t336) = true
   ·rw [if_pos c7] at H
    have c7b0 : (t346 != t336) = true := c7
    (try (have c7b1 : decide (t346 = t336) = false := by simpa using c7))
    (try (have c7b2 : (t346 == t336) = false := by simpa using c7))
    (try (have c7b3 : ¬ (t346 = t336) := by simpa using c7))
    clear c7
    obtain rfl := Option.some.inj H
    exact absurd hT_.out (by simp)
   ·rw [if_neg c7] at H
    have c7b0 : (t346 != t336) = false := by simpa using c7
    (try (have c7b1 : decide (t346 = t336) = true := by simpa using c7))
    (try (have c7b2 : (t346 == t336) = true := by simpa using c7))
    clear c7
    obtain rfl := Option.some.inj H
    go_enter Tryd.func10, Tryd.ntmps10
    go_wp2_with (first | ((with_reducible refine gate_callee (f := 27) rfl ?_); refine goesL_ (some 12) rfl rfl Tryd.func27 (by kernel_rfl) rfl #[.string a0] rfl (by (try simp only [List.map_toArray, List.map_cons, List.map_nil]); first | done | rfl | (simp only [List.length_drop, List.length_take]; rfl)) ?_; (with_reducible refine (spec_RecRead.calls k a0 t328 t329 t330 t331 t332 t333 t334 t335 t336 _ A3.out).mono ?_); rintro e w17 ⟨rfl, hb⟩; refine ⟨_, rfl, ?_⟩; replace HB := az (below_step (by repeat (first | (with_reducible first | exact HB.out | apply wa | apply wn | apply wd) | exact HB.out)) hb); (try clear hb); (try clear hb2); (try clear hk); (try clear hi)) | ((with_reducible refine gate_dst (N := 3) rfl ?_); refine box_event ?hg (N := 3) ?hd (cs := #[.int .i64 0, .int .i64 0, .int .i64 0, .int .i64 0, .int .i64 0, .int .i64 0, .int .i64 0, .int .i64 0]) (t := 37) ?hr ?_; (case hd => rfl); (case hg => rfl); (case hr => first | (go_simp; done) | (go_simp; rfl)); intro gb337 hg w18 hbox hb; have BK337 := az (hbox); have GW337 := az ((by rw [hg]; exact (below_size (by repeat (first | (with_reducible first | exact HB.out | apply wa | apply wn | apply wd) | exact HB.out))) : w.heap.size ≤ gb337)); have GE337 := GW337; replace HB := az (below_step (by repeat (first | (with_reducible first | exact HB.out | apply wa | apply wn | apply wd) | exact HB.out)) hb); clear hb hbox hg; obtain ⟨hcz19_0, hcz19_1, hcz19_2, hcz19_3, hcz19_4, hcz19_5, hcz19_6, hcz19_7⟩ := cz8 BK337; obtain ⟨hfz19_0, hfz19_1, hfz19_2, hfz19_3, hfz19_4, hfz19_5, hfz19_6⟩ := fz7 BK337; have hfz19_7 := blk_frozen BK337.out 7) | ((with_reducible refine gate_callee (f := 25) rfl ?_); refine goesL_ (some 17) rfl rfl Tryd.func25 (by kernel_rfl) rfl #[.string a0] rfl (by (try simp only [List.map_toArray, List.map_cons, List.map_nil]); first | done | rfl | (simp only [List.length_drop, List.length_take]; rfl)) ?_; (with_reducible refine (impl_RecRead.calls k a0 t338 t339 t340 t341 t342 t343 t344 t345 t346 _ (HD.out.on (by repeat (first | (with_reducible first | exact HB.out | apply wa | apply wn | apply wd | refine ws ‹_› ?_) | exact HB.out))) A4.out).mono ?_); rintro e w20 ⟨rfl, hb⟩; refine ⟨_, rfl, ?_⟩; replace BK337 := az (blk_below (g := gb337) (o := .cells #[.int .i64 t328, .int .i64 t329, .int .i64 t330, .int .i64 t331, .int .i64 t332, .int .i64 t333, .int .i64 t334, .int .i64 t335] 37 (0, 0)) (by (with_reducible repeat (first | apply bn | apply bd | apply ba)); exact p8 BK337) hb); replace HB := az (below_step (by repeat (first | (with_reducible first | exact HB.out | apply wa | apply wn | apply wd | refine ws ‹_› ?_) | exact HB.out)) hb); (try clear hb); (try clear hb2); (try clear hk); (try clear hi)) | ((with_reducible refine gate_dst (N := 5) rfl ?_); refine box_event ?hg (N := 5) ?hd (cs := #[.int .i64 0, .int .i64 0, .int .i64 0, .int .i64 0, .int .i64 0, .int .i64 0, .int .i64 0, .int .i64 0]) (t := 37) ?hr ?_; (case hd => rfl); (case hg => rfl); (case hr => first | (go_simp; done) | (go_simp; rfl)); intro gb347 hg w21 hbox hb; have BK347 := az (hbox); have GW347 := az ((by rw [hg]; exact (below_size (by repeat (first | (with_reducible first | exact HB.out | apply wa | apply wn | apply wd | refine ws ‹_› ?_) | exact HB.out))) : w.heap.size ≤ gb347)); have GE347 := GW347; replace HB := az (below_step (by repeat (first | (with_reducible first | exact HB.out | apply wa | apply wn | apply wd | refine ws ‹_› ?_) | exact HB.out)) hb); obtain ⟨NB337_347, NB347_337⟩ := nb BK337 hg (fun h => by (with_reducible repeat (first | apply bn | apply bd | apply ba)); exact h); replace BK337 := bb BK337 (fun h => by (with_reducible repeat (first | apply bn | apply bd | apply ba)); exact h) hb; clear hb hbox hg; have hnb22 := NB347_337.out; have hnc22 := NB337_347.out; obtain ⟨hcz23_0, hcz23_1, hcz23_2, hcz23_3, hcz23_4, hcz23_5, hcz23_6, hcz23_7⟩ := cz8 BK347; obtain ⟨hfz23_0, hfz23_1, hfz23_2, hfz23_3, hfz23_4, hfz23_5, hfz23_6, hfz23_7⟩ := fz8 BK347; obtain ⟨hcz24_0, hcz24_1, hcz24_2, hcz24_3, hcz24_4, hcz24_5, hcz24_6, hcz24_7⟩ := cz8 BK337; obtain ⟨hfz24_0, hfz24_1, hfz24_2, hfz24_3, hfz24_4, hfz24_5, hfz24_6⟩ := fz7 BK337; have hfz24_7 := blk_frozen BK337.out 7) | ((with_reducible refine gate_callee (f := 28) rfl ?_); refine goesL_ (some 22) rfl rfl Tryd.func28 (by kernel_rfl) rfl #[.agg #[.int .i64 t338, .int .i64 t339, .int .i64 t340, .int .i64 t341, .int .i64 t342, .int .i64 t343, .int .i64 t344, .int .i64 t345], .agg #[.int .i64 t328, .int .i64 t329, .int .i64 t330, .int .i64 t331, .int .i64 t332, .int .i64 t333, .int .i64 t334, .int .i64 t335]] rfl (by (try simp only [List.map_toArray, List.map_cons, List.map_nil]); first | done | rfl | (simp only [List.length_drop, List.length_take]; rfl)) ?_; (with_reducible refine (laws_eqRec.calls t338 t339 t340 t341 t342 t343 t344 t345 t328 t329 t330 t331 t332 t333 t334 t335 true _ A5.out).mono ?_); rintro e w25 ⟨rfl, hb⟩; refine ⟨_, rfl, ?_⟩; replace BK337 := az (blk_below (g := gb337) (o := .cells #[.int .i64 t328, .int .i64 t329, .int .i64 t330, .int .i64 t331, .int .i64 t332, .int .i64 t333, .int .i64 t334, .int .i64 t335] 37 (0, 0)) (by (repeat (first | (with_reducible first | apply bn | apply bd | apply ba) | apply bf NB337_347)); exact BK337.out) hb); replace BK347 := az (blk_below (g := gb347) (o := .cells #[.int .i64 t338, .int .i64 t339, .int .i64 t340, .int .i64 t341, .int .i64 t342, .int .i64 t343, .int .i64 t344, .int .i64 t345] 37 (0, 0)) (by (with_reducible repeat (first | apply bn | apply bd | apply ba)); exact p8 BK347) hb); replace HB := az (below_step (by repeat (first | (with_reducible first | exact HB.out | apply wa | apply wn | apply wd | refine ws ‹_› ?_) | exact HB.out)) hb); (try clear hb); (try clear hb2); (try clear hk); (try clear hi)))
    go_ret
    exact ⟨by first | rfl | (simp [errW_none, errW_some] <;> rfl) | (simp [*, errW_none, errW_some] <;> rfl), by repeat (first | (with_reducible first | exact HB.out | apply wa | apply wn | apply wd | refine ws ‹_› ?_) | exact HB.out)⟩
  ·replace c6 := Bool.eq_false_iff.mpr c6
   subst c6
   have H1 : (some false) = some r := by rw [if_neg (show ¬ (false = true) by decide)] at H; exact H
   clear H
   have H := H1
   clear H1
   obtain rfl := Option.some.inj H
   exact absurd hT_.out (by simp)
end Go.Proofs.YtajdjoggflagdaaDoor.Pr
