-- Laid by a program (extract.py) out of this seat's translation: contracts of a few functions, a text a function; Lean checks them.
import Derived.Test.YtajdjoggflagdaaDoorPrK
import Derived.Test.YtajdjoggflagdaaDoorPTp
import Derived.Test.YtajdjoggflagdaaDoorPrDPT
import Derived.Test.YtajdjoggflagdaaDoorSq
namespace Go.Proofs.YtajdjoggflagdaaDoor.Pr
open Go.RowKit Go.Proofs.YtajdjoggflagdaaDoorW.PrintWords Go.Proofs.YtajdjoggflagdaaDoorW.PrintLast Go.Proofs.YtajdjoggflagdaaDoorW.PrintMore
attribute [local go_sem] max2_int min2_int max_two min_two max_three min_three max_four min_four
set_option linter.unusedVariables false
set_option linter.unusedSimpArgs false
/-! ### laws_FnPageCopy: function 3 -/
mutual
def laws_FnPageCopy.j0 : Nat → List Int → List Int → Bool → Option (Bool)
 | 0, _, _, _ => none
 | k + 1, x0, x1, x17 => if x17 = true then (some true) else ((spec_DrawPageText.f k x0).bind fun bt175 => ((impl_PageText.f k bt175.1 bt175.2.1 bt175.2.2).bind fun t181 => ((spec_PageText.f k bt175.1 bt175.2.1 bt175.2.2).bind fun t182 => (if t181.toList = t182.toList then (if t181.toList = ([] : List UInt8) then (laws_FnPageCopy.j1 k x1 t181 true bt175.1 bt175.2.1 bt175.2.2) else (laws_FnPageCopy.j1 k x1 t181 (bt175.2.1 == 0) bt175.1 bt175.2.1 bt175.2.2)) else (laws_FnPageCopy.j1 k x1 t181 true bt175.1 bt175.2.1 bt175.2.2)))))
def laws_FnPageCopy.j1 : Nat → List Int → ByteArray → Bool → Int → Int → List Int → Option (Bool)
 | 0, _, _, _, _, _, _ => none
 | k + 1, x1, x6, x34, x181000, x181001, x181002 => if x34 = true then ((spec_PageText.f k x181000 x181001 x181002).bind fun t183 => (some (x6.toList == t183.toList))) else ((some (([] : List Int) : List Int)).bind fun y185 => (if y185.length + x181002.length < 17592186044416 then ((some (y185 ++ x181002 : List Int)).bind fun y188 => (if 0 ≤ ((x1.length : Int) % 3) then (if ((x1.length : Int) % 3) < (x181002.length : Int) then (if ((x1.length : Int) % 3) < (y188.length : Int) then ((impl_PageText.f k x181000 x181001 (y188.set (((x1.length : Int) % 3) : Int).toNat (Int.tmod (wrap64 ((rd x181002 ((x1.length : Int) % 3)) + 1)) 10))).bind fun t194 => (if t194.toList = x6.toList then (some false) else ((impl_PageText.f k x181000 4 x181002).bind fun t195 => (some (t195.toList == ([] : List UInt8)))))) else (none)) else (none)) else (none))) else (none)))
end
def laws_FnPageCopy.f (k : Nat) (l0 : List Int) (l1 : List Int) : Option (Bool) := if (l0.length : Int) > 1048576 then (laws_FnPageCopy.j0 k l0 l1 true) else (laws_FnPageCopy.j0 k l0 l1 (decide ((l1.length : Int) > 1048576)))
def laws_FnPageCopy.T10 : Bool × List (List Nat × List Nat) := (true, [([], []), ([0], [0]), ([], []), ([], []), ([3], [3]), ([], []), ([4, 5], [4, 5]), ([6], [6]), ([7], [7]), ([8], [8]), ([1, 2, 0, 1, 2, 3, 4, 5, 6, 7, 8, 9], [1, 2]), ([10, 9, 0, 1, 2, 3, 4, 5, 6, 7, 8, 9], [9, 10])])
def laws_FnPageCopy.B10 : List Nat := [0, 1, 0, 0, 8, 0, 56, 120, 248, 504, 1023, 2047]
theorem laws_FnPageCopy.tab10 : rtab .any (opsOf Tryd.f3 10) = laws_FnPageCopy.T10 := by kernel_rfl
theorem laws_FnPageCopy.bits10 : waitsOk laws_FnPageCopy.T10.2 laws_FnPageCopy.B10 = true := by kernel_rfl
set_option maxHeartbeats 8000000 in
set_option maxRecDepth 100000 in
theorem laws_FnPageCopy.calls (k : Nat) (A0 : Option Addr) (c0 : Nat) (l0 : List Int) (A1 : Option Addr) (c1 : Nat) (l1 : List Int) (r : Bool) (w : World) (hr0 : Kd.C (Kd.int .u8) w A0 l0.length l0) (hc0 : l0.length ≤ c0) (hr1 : Kd.C (Kd.int .u8) w A1 l1.length l1) (hc1 : l1.length ≤ c1) (h : laws_FnPageCopy.f k l0 l1 = some r) (hT_ : Aside0 (r = true)) :
  Calls Tryd.prog 3 #[.slice A0 l0.length c0, .slice A1 l1.length c1] w fun e w' => e = .returned (.bool r) ∧ Below w.heap.size w w' := by
 have hu25 := Tryd.underlying25
 have HR0 := az hr0
 have HC0 := az hc0
 clear hr0 hc0
 have HR1 := az hr1
 have HC1 := az hc1
 clear hr1 hc1
 have HB := az (Below.refl w.heap.size w)
 have H : (if (l0.length : Int) > 1048576 then (laws_FnPageCopy.j0 k l0 l1 true) else (laws_FnPageCopy.j0 k l0 l1 (decide ((l1.length : Int) > 1048576)))) = some r := h
 clear h
 have HC3 := az H
 clear H
 go_enter Tryd.func3, Tryd.ntmps3
 go_upto_region 1 with (fail)
 go_cut [17] (fun v17 wc => ∃ (kq : Nat) (x17_2 : Bool), v17 = .bool x17_2 ∧ Aside0 (laws_FnPageCopy.j0 kq l0 l1 x17_2 = some r) ∧ Aside0 (kq ≤ k) ∧ Aside0 (Below w.heap.size w wc))
 case first =>
  have H := HC3.out
  clear HC3
  by_cases c4 : (l0.length : Int) > 1048576
  ·rw [if_pos c4] at H
   have c4b0 : decide (1048576 < (l0.length : Int)) = true := decide_eq_true c4
   have c4b1 : decide (1048576 < l0.length) = true := decide_eq_true (by omega)
   clear c4
   (first | rw [c4b0] | (simp only [i64_w, i32_w]; rw [c4b0]) | skip)
   have H' := az H
   clear H
   go_wp2
   go_meet
   case rel => exact ⟨_, (true), (by first | rfl | (simp; done) | (simp [*]; done)), H', ⟨by first | omega | exact Nat.le_refl _⟩, ⟨by repeat (first | (with_reducible first | exact HB.out | apply wa | apply wn | apply wd) | exact HB.out)⟩⟩
  ·rw [if_neg c4] at H
   have c4b0 : decide (1048576 < (l0.length : Int)) = false := decide_eq_false c4
   have c4b1 : decide (1048576 < l0.length) = false := decide_eq_false (by omega)
   clear c4
   (first | rw [c4b0] | (simp only [i64_w, i32_w]; rw [c4b0]) | skip)
   have H' := az H
   clear H
   go_wp2
   go_meet
   case rel => exact ⟨_, (decide ((l1.length : Int) > 1048576)), (by first | rfl | (simp; done) | (simp [*]; done)), H', ⟨by first | omega | exact Nat.le_refl _⟩, ⟨by repeat (first | (with_reducible first | exact HB.out | apply wa | apply wn | apply wd) | exact HB.out)⟩⟩
 case rest =>
  clear HC3;(try clear c1);(try clear p2);(try clear c3);(try clear c4);(try clear c4b0);(try clear c4b1)
  obtain ⟨kq, x17_2, rfl, HA, HJ2, HB⟩ := hcut
  cases kq with
  | zero => exact absurd HA.out (by simp [laws_FnPageCopy.j0])
  | succ kj2 =>
   have H := HA.out
   clear HA
   simp only [laws_FnPageCopy.j0] at H
   by_cases c5 : x17_2 = true
   ·subst c5
    have H1 : (some true) = some r := by rw [if_pos rfl] at H; exact H
    clear H
    have H := H1
    clear H1
    obtain rfl := Option.some.inj H
    go_wp2
    go_ret
    exact ⟨by first | rfl | (simp [errW_none, errW_some] <;> rfl) | (simp [*, errW_none, errW_some] <;> rfl), by repeat (first | (with_reducible first | exact HB.out | apply wa | apply wn | apply wd) | exact HB.out)⟩
   ·replace c5 := Bool.eq_false_iff.mpr c5
    subst c5
    have H1 : ((spec_DrawPageText.f kj2 l0).bind fun bt175 => ((impl_PageText.f kj2 bt175.1 bt175.2.1 bt175.2.2).bind fun t181 => ((spec_PageText.f kj2 bt175.1 bt175.2.1 bt175.2.2).bind fun t182 => (if t181.toList = t182.toList then (if t181.toList = ([] : List UInt8) then (laws_FnPageCopy.j1 kj2 l1 t181 true bt175.1 bt175.2.1 bt175.2.2) else (laws_FnPageCopy.j1 kj2 l1 t181 (bt175.2.1 == 0) bt175.1 bt175.2.1 bt175.2.2)) else (laws_FnPageCopy.j1 kj2 l1 t181 true bt175.1 bt175.2.1 bt175.2.2))))) = some r := by rw [if_neg (show ¬ (false = true) by decide)] at H; exact H
    clear H
    have H := H1
    clear H1
    replace H := Option.bind_eq_some_iff.mp H
    obtain ⟨⟨t175, t176, t177⟩, A60, H⟩ := H
    replace H : ((impl_PageText.f kj2 t175 t176 t177).bind fun t181 => ((spec_PageText.f kj2 t175 t176 t177).bind fun t182 => (if t181.toList = t182.toList then (if t181.toList = ([] : List UInt8) then (laws_FnPageCopy.j1 kj2 l1 t181 true t175 t176 t177) else (laws_FnPageCopy.j1 kj2 l1 t181 (t176 == 0) t175 t176 t177)) else (laws_FnPageCopy.j1 kj2 l1 t181 true t175 t176 t177)))) = some r := H
    have A6 := az A60
    clear A60
    replace H := Option.bind_eq_some_iff.mp H
    obtain ⟨t181, A70, H⟩ := H
    replace H : ((spec_PageText.f kj2 t175 t176 t177).bind fun t182 => (if t181.toList = t182.toList then (if t181.toList = ([] : List UInt8) then (laws_FnPageCopy.j1 kj2 l1 t181 true t175 t176 t177) else (laws_FnPageCopy.j1 kj2 l1 t181 (t176 == 0) t175 t176 t177)) else (laws_FnPageCopy.j1 kj2 l1 t181 true t175 t176 t177))) = some r := H
    have A7 := az A70
    clear A70
    have HC8 := az H
    clear H
    go_upto_region 5 with (first | ((with_reducible refine gate_callee (f := 12) rfl ?_); refine goesL_ (some 19) rfl rfl Tryd.func12 (by kernel_rfl) rfl #[.slice A0 l0.length c0] rfl (by (try simp only [List.map_toArray, List.map_cons, List.map_nil]); first | done | rfl | (simp only [List.length_drop, List.length_take]; rfl)) ?_; (with_reducible refine (spec_DrawPageText.calls kj2 _ _ l0 t175 t176 t177 _ ?side1 ?side2 A6.out).mono ?_); (case side1 => repeat (first | exact (Kd.C_below HR0.out HB.out) | (with_reducible refine Kd.C_alloc ?_ _) | (with_reducible refine Kd.C_drewN ?_ _) | (with_reducible refine Kd.C_drew ?_))); (case side2 => exact HC0.out); rintro e w9 ⟨v178, rfl, ho0, hb⟩; refine ⟨_, rfl, ?_⟩; have HO179 := az (Kd.Q_lower ho0 (below_size (by repeat (first | (with_reducible first | exact HB.out | apply wa | apply wn | apply wd) | exact HB.out)))); replace HB := az (below_step (by repeat (first | (with_reducible first | exact HB.out | apply wa | apply wn | apply wd) | exact HB.out)) hb); (try clear hb); (try clear hb2); (try clear hk); (try clear hi); (try clear ho0)) | ((with_reducible refine gate_dst (N := 5) rfl ?_); (try (refine gate_guard (by rfl) ?_; dsimp only)); refine box_event ?hg (N := 5) ?hd (cs := #[.int .i64 0, .int .i64 0, .slice none 0 0]) (t := 25) ?hr ?_; (case hd => rfl); (case hg => rfl); (case hr => first | (go_simp; done) | (go_simp; rfl)); intro gb180 hg w10 hbox hb; replace HO179 := az (Kd.Q_below (by (with_reducible repeat (first | apply Kd.Q_alloc | apply Kd.Q_drewN | apply Kd.Q_drew)); exact HO179.out) hb); have BK180 := az (hbox); have GW180 := az ((by rw [hg]; exact (below_size (by repeat (first | (with_reducible first | exact HB.out | apply wa | apply wn | apply wd) | exact HB.out))) : w.heap.size ≤ gb180)); have GE180 := GW180; replace HB := az (below_step (by repeat (first | (with_reducible first | exact HB.out | apply wa | apply wn | apply wd) | exact HB.out)) hb); clear hb hbox hg; obtain ⟨hcz11_0, hcz11_1, hcz11_2⟩ := cz3 BK180; obtain ⟨hfz11_0, hfz11_1, hfz11_2⟩ := fz3 BK180; obtain ⟨Ao12, co12, eo12, _⟩ := Kd.Q_slice HO179.out; subst eo12) | ((with_reducible refine gate_callee (f := 13) rfl ?_); refine goesL_ (some 21) rfl rfl Tryd.func13 (by kernel_rfl) rfl #[.agg #[.int .i64 t175, .int .i64 t176, .slice Ao12 t177.length co12]] rfl (by (try simp only [List.map_toArray, List.map_cons, List.map_nil]); first | done | rfl | (simp only [List.length_drop, List.length_take]; rfl)) ?_; (with_reducible refine (impl_PageText.calls kj2 t175 t176 _ _ t177 t181 _ ?side1 ?side2 A7.out).mono ?_); (case side1 => refine (Kd.Q_reads' (e := 3) (base := w.heap.size) (ok := fun k_ => True) (n := t177.length) (c := co12) ?_).2.2; exact (by (with_reducible repeat (first | apply Kd.Q_alloc | apply Kd.Q_drewN | apply Kd.Q_drew)); exact (fQ3 HO179.out BK180.out (by decide)))); (case side2 => exact (Kd.Q_reads' HO179.out).2.1); rintro e w13 ⟨rfl, hb⟩; refine ⟨_, rfl, ?_⟩; replace HO179 := az (Kd.Q_below (by (with_reducible repeat (first | apply Kd.Q_alloc | apply Kd.Q_drewN | apply Kd.Q_drew)); exact (fQ3 HO179.out BK180.out (by decide))) hb); replace BK180 := az (blk_below (g := gb180) (o := .cells #[.int .i64 t175, .int .i64 t176, .slice Ao12 t177.length co12] 25 (0, 0)) (by (with_reducible repeat (first | apply bn | apply bd | apply ba)); exact p3 BK180) hb); replace HB := az (below_step (by repeat (first | (with_reducible first | exact HB.out | apply wa | apply wn | apply wd | refine ws ‹_› ?_) | exact HB.out)) hb); (try clear hb); (try clear hb2); (try clear hk); (try clear hi)))
    (try simp only [Act.put, List.setIfInBounds_toArray, List.set_cons_zero, List.set_cons_succ])
    go_cut [34] (fun v34 wc => ∃ (kq : Nat) (x34_7 : Bool), v34 = .bool x34_7 ∧ Aside0 (laws_FnPageCopy.j1 kq l1 t181 x34_7 t175 t176 t177 = some r) ∧ Aside0 (kq ≤ kj2) ∧ Aside0 (Kd.Q (Kd.int .i64) 3 wc w.heap.size (fun _ => True) (.slice Ao12 t177.length co12) t177) ∧ Aside0 (wc.heap[gb180]? = some (.cells #[.int .i64 t175, .int .i64 t176, (.slice Ao12 t177.length co12)] 25 (0, 0))) ∧ Aside0 (Below w.heap.size w wc))
    case first =>
     have H := HC8.out
     clear HC8
     replace H := Option.bind_eq_some_iff.mp H
     obtain ⟨t182, A140, H⟩ := H
     replace H : (if t181.toList = t182.toList then (if t181.toList = ([] : List UInt8) then (laws_FnPageCopy.j1 kj2 l1 t181 true t175 t176 t177) else (laws_FnPageCopy.j1 kj2 l1 t181 (t176 == 0) t175 t176 t177)) else (laws_FnPageCopy.j1 kj2 l1 t181 true t175 t176 t177)) = some r := H
     have A14 := az A140
     clear A140
     by_cases c15 : t181.toList = t182.toList
     ·rw [if_pos c15] at H
      have c15b0 : (t181.toList == t182.toList) = true := beq_iff_eq.mpr c15
      have c15b1 : (t181.toList != t182.toList) = false := bne_eq_false_iff_eq.mpr c15
      clear c15
      (first | rw [c15b0] | (simp only [i64_w, i32_w]; rw [c15b0]) | skip)
      by_cases c16 : t181.toList = ([] : List UInt8)
      ·rw [if_pos c16] at H
       have c16b0 : (t181.toList == ([] : List UInt8)) = true := beq_iff_eq.mpr c16
       have c16b1 : (t181.toList != ([] : List UInt8)) = false := bne_eq_false_iff_eq.mpr c16
       clear c16
       have H' := az H
       clear H
       obtain ⟨hcz17_0, hcz17_1, hcz17_2⟩ := cz3 BK180
       obtain ⟨hfz17_0, hfz17_1, hfz17_2⟩ := fz3 BK180
       go_wp2_with (first | ((with_reducible refine gate_callee (f := 14) rfl ?_); refine goesL_ (some 24) rfl rfl Tryd.func14 (by kernel_rfl) rfl #[.agg #[.int .i64 t175, .int .i64 t176, .slice Ao12 t177.length co12]] rfl (by (try simp only [List.map_toArray, List.map_cons, List.map_nil]); first | done | rfl | (simp only [List.length_drop, List.length_take]; rfl)) ?_; (with_reducible refine (spec_PageText.calls kj2 t175 t176 _ _ t177 t182 _ ?side1 ?side2 A14.out).mono ?_); (case side1 => repeat (first | exact (Kd.Q_reads' HO179.out).2.2 | (with_reducible refine Kd.C_alloc ?_ _) | (with_reducible refine Kd.C_drewN ?_ _) | (with_reducible refine Kd.C_drew ?_))); (case side2 => exact (Kd.Q_reads' HO179.out).2.1); rintro e w18 ⟨rfl, hb⟩; refine ⟨_, rfl, ?_⟩; replace HO179 := az (Kd.Q_below (by (with_reducible repeat (first | apply Kd.Q_alloc | apply Kd.Q_drewN | apply Kd.Q_drew)); exact HO179.out) hb); replace BK180 := bb BK180 (fun h => by (with_reducible repeat (first | apply bn | apply bd | apply ba)); exact h) hb; replace HB := az (below_step (by repeat (first | (with_reducible first | exact HB.out | apply wa | apply wn | apply wd | refine ws ‹_› ?_) | exact HB.out)) hb); (try clear hb); (try clear hb2); (try clear hk); (try clear hi)))
       go_meet
       case rel => exact ⟨_, (true), (by first | rfl | (simp; done) | (simp [*]; done)), H', ⟨by have := HJ2.out; first | omega | exact Nat.le_refl _⟩, ⟨by (with_reducible repeat (first | apply Kd.Q_alloc | apply Kd.Q_drewN | apply Kd.Q_drew)); exact HO179.out⟩, ⟨by (with_reducible repeat (first | apply bn | apply bd | apply ba)); exact BK180.out⟩, ⟨by repeat (first | (with_reducible first | exact HB.out | apply wa | apply wn | apply wd | refine ws ‹_› ?_) | exact HB.out)⟩⟩
      ·rw [if_neg c16] at H
       have c16b0 : (t181.toList == ([] : List UInt8)) = false := beq_eq_false_iff_ne.mpr c16
       have c16b1 : (t181.toList != ([] : List UInt8)) = true := bne_iff_ne.mpr c16
       have H' := az H
       clear H
       obtain ⟨hcz19_0, hcz19_1, hcz19_2⟩ := cz3 BK180
       obtain ⟨hfz19_0, hfz19_1, hfz19_2⟩ := fz3 BK180
       go_wp2_with (first | ((with_reducible refine gate_callee (f := 14) rfl ?_); refine goesL_ (some 24) rfl rfl Tryd.func14 (by kernel_rfl) rfl #[.agg #[.int .i64 t175, .int .i64 t176, .slice Ao12 t177.length co12]] rfl (by (try simp only [List.map_toArray, List.map_cons, List.map_nil]); first | done | rfl | (simp only [List.length_drop, List.length_take]; rfl)) ?_; (with_reducible refine (spec_PageText.calls kj2 t175 t176 _ _ t177 t182 _ ?side1 ?side2 A14.out).mono ?_); (case side1 => repeat (first | exact (Kd.Q_reads' HO179.out).2.2 | (with_reducible refine Kd.C_alloc ?_ _) | (with_reducible refine Kd.C_drewN ?_ _) | (with_reducible refine Kd.C_drew ?_))); (case side2 => exact (Kd.Q_reads' HO179.out).2.1); rintro e w20 ⟨rfl, hb⟩; refine ⟨_, rfl, ?_⟩; replace HO179 := az (Kd.Q_below (by (with_reducible repeat (first | apply Kd.Q_alloc | apply Kd.Q_drewN | apply Kd.Q_drew)); exact HO179.out) hb); replace BK180 := bb BK180 (fun h => by (with_reducible repeat (first | apply bn | apply bd | apply ba)); exact h) hb; replace HB := az (below_step (by repeat (first | (with_reducible first | exact HB.out | apply wa | apply wn | apply wd | refine ws ‹_› ?_) | exact HB.out)) hb); (try clear hb); (try clear hb2); (try clear hk); (try clear hi); obtain ⟨hcz21_0, hcz21_1, hcz21_2⟩ := cz3 BK180; have hfz21_0 := blk_frozen BK180.out 0; have hfz21_1 := blk_frozen BK180.out 1; have hfz21_2 := blk_frozen BK180.out 2))
       go_meet
       case rel => exact ⟨_, ((t176 == 0)), (by first | rfl | (simp; done) | (simp [*]; done)), H', ⟨by have := HJ2.out; first | omega | exact Nat.le_refl _⟩, ⟨by (with_reducible repeat (first | apply Kd.Q_alloc | apply Kd.Q_drewN | apply Kd.Q_drew)); exact HO179.out⟩, ⟨by (with_reducible repeat (first | apply bn | apply bd | apply ba)); exact BK180.out⟩, ⟨by repeat (first | (with_reducible first | exact HB.out | apply wa | apply wn | apply wd | refine ws ‹_› ?_) | exact HB.out)⟩⟩
     ·rw [if_neg c15] at H
      have c15b0 : (t181.toList == t182.toList) = false := beq_eq_false_iff_ne.mpr c15
      have c15b1 : (t181.toList != t182.toList) = true := bne_iff_ne.mpr c15
      (first | rw [c15b0] | (simp only [i64_w, i32_w]; rw [c15b0]) | skip)
      have H' := az H
      clear H
      obtain ⟨hcz22_0, hcz22_1, hcz22_2⟩ := cz3 BK180
      obtain ⟨hfz22_0, hfz22_1, hfz22_2⟩ := fz3 BK180
      go_wp2_with (first | ((with_reducible refine gate_callee (f := 14) rfl ?_); refine goesL_ (some 24) rfl rfl Tryd.func14 (by kernel_rfl) rfl #[.agg #[.int .i64 t175, .int .i64 t176, .slice Ao12 t177.length co12]] rfl (by (try simp only [List.map_toArray, List.map_cons, List.map_nil]); first | done | rfl | (simp only [List.length_drop, List.length_take]; rfl)) ?_; (with_reducible refine (spec_PageText.calls kj2 t175 t176 _ _ t177 t182 _ ?side1 ?side2 A14.out).mono ?_); (case side1 => repeat (first | exact (Kd.Q_reads' HO179.out).2.2 | (with_reducible refine Kd.C_alloc ?_ _) | (with_reducible refine Kd.C_drewN ?_ _) | (with_reducible refine Kd.C_drew ?_))); (case side2 => exact (Kd.Q_reads' HO179.out).2.1); rintro e w23 ⟨rfl, hb⟩; refine ⟨_, rfl, ?_⟩; replace HO179 := az (Kd.Q_below (by (with_reducible repeat (first | apply Kd.Q_alloc | apply Kd.Q_drewN | apply Kd.Q_drew)); exact HO179.out) hb); replace BK180 := bb BK180 (fun h => by (with_reducible repeat (first | apply bn | apply bd | apply ba)); exact h) hb; replace HB := az (below_step (by repeat (first | (with_reducible first | exact HB.out | apply wa | apply wn | apply wd | refine ws ‹_› ?_) | exact HB.out)) hb); (try clear hb); (try clear hb2); (try clear hk); (try clear hi)))
      go_meet
      case rel => exact ⟨_, (true), (by first | rfl | (simp; done) | (simp [*]; done)), H', ⟨by have := HJ2.out; first | omega | exact Nat.le_refl _⟩, ⟨by (with_reducible repeat (first | apply Kd.Q_alloc | apply Kd.Q_drewN | apply Kd.Q_drew)); exact HO179.out⟩, ⟨by (with_reducible repeat (first | apply bn | apply bd | apply ba)); exact BK180.out⟩, ⟨by repeat (first | (with_reducible first | exact HB.out | apply wa | apply wn | apply wd | refine ws ‹_› ?_) | exact HB.out)⟩⟩
    case rest =>
     clear HC8;(try clear c1);(try clear p2);(try clear c3);(try clear c4);(try clear c4b0);(try clear c4b1);(try clear c5);(try clear c12);(try clear c13);(try clear c14);(try clear c15);(try clear c15b0);(try clear c15b1);(try clear c16);(try clear c16b0);(try clear c16b1);(try clear hcz11_0);(try clear hcz11_1);(try clear hcz11_2);(try clear hcz17_0);(try clear hcz17_1);(try clear hcz17_2);(try clear hcz19_0);(try clear hcz19_1);(try clear hcz19_2);(try clear hcz21_0);(try clear hcz21_1);(try clear hcz21_2);(try clear hcz22_0);(try clear hcz22_1);(try clear hcz22_2);(try clear hfz11_0);(try clear hfz11_1);(try clear hfz11_2);(try clear hfz17_0);(try clear hfz17_1);(try clear hfz17_2);(try clear hfz19_0);(try clear hfz19_1);(try clear hfz19_2);(try clear hfz21_0);(try clear hfz21_1);(try clear hfz21_2);(try clear hfz22_0);(try clear hfz22_1);(try clear hfz22_2);(try clear p2)
     obtain ⟨kq, x34_7, rfl, HA, HJ7, HO_181002, BK180, HB⟩ := hcut
     cases kq with
     | zero => exact absurd HA.out (by simp [laws_FnPageCopy.j1])
     | succ kj7 =>
      have H := HA.out
      clear HA
      simp only [laws_FnPageCopy.j1] at H
      by_cases c24 : x34_7 = true
      ·subst c24
       have H1 : ((spec_PageText.f kj7 t175 t176 t177).bind fun t183 => (some (t181.toList == t183.toList))) = some r := by rw [if_pos rfl] at H; exact H
       clear H
       have H := H1
       clear H1
       replace H := Option.bind_eq_some_iff.mp H
       obtain ⟨t183, A250, H⟩ := H
       replace H : (some (t181.toList == t183.toList)) = some r := H
       have A25 := az A250
       clear A250
       obtain rfl := Option.some.inj H
       obtain ⟨hcz26_0, hcz26_1, hcz26_2⟩ := cz3 BK180
       obtain ⟨hfz26_0, hfz26_1, hfz26_2⟩ := fz3 BK180
       go_wp2_with (first | ((with_reducible refine gate_callee (f := 14) rfl ?_); refine goesL_ (some 37) rfl rfl Tryd.func14 (by kernel_rfl) rfl #[.agg #[.int .i64 t175, .int .i64 t176, .slice Ao12 t177.length co12]] rfl (by (try simp only [List.map_toArray, List.map_cons, List.map_nil]); first | done | rfl | (simp only [List.length_drop, List.length_take]; rfl)) ?_; (with_reducible refine (spec_PageText.calls kj7 t175 t176 _ _ t177 t183 _ ?side1 ?side2 A25.out).mono ?_); (case side1 => repeat (first | exact (Kd.Q_reads' HO_181002.out).2.2 | (with_reducible refine Kd.C_alloc ?_ _) | (with_reducible refine Kd.C_drewN ?_ _) | (with_reducible refine Kd.C_drew ?_))); (case side2 => exact (Kd.Q_reads' HO_181002.out).2.1); rintro e w27 ⟨rfl, hb⟩; refine ⟨_, rfl, ?_⟩; replace HO_181002 := az (Kd.Q_below (by (with_reducible repeat (first | apply Kd.Q_alloc | apply Kd.Q_drewN | apply Kd.Q_drew)); exact HO_181002.out) hb); replace BK180 := bb BK180 (fun h => by (with_reducible repeat (first | apply bn | apply bd | apply ba)); exact h) hb; replace HB := az (below_step (by repeat (first | (with_reducible first | exact HB.out | apply wa | apply wn | apply wd | refine ws ‹_› ?_) | exact HB.out)) hb); (try clear hb); (try clear hb2); (try clear hk); (try clear hi)))
       go_ret
       exact ⟨by first | rfl | (simp [errW_none, errW_some] <;> rfl) | (simp [*, errW_none, errW_some] <;> rfl), by repeat (first | (with_reducible first | exact HB.out | apply wa | apply wn | apply wd | refine ws ‹_› ?_) | exact HB.out)⟩
      ·replace c24 := Bool.eq_false_iff.mpr c24
       subst c24
       have H1 : ((some (([] : List Int) : List Int)).bind fun y185 => (if y185.length + t177.length < 17592186044416 then ((some (y185 ++ t177 : List Int)).bind fun y188 => (if 0 ≤ ((l1.length : Int) % 3) then (if ((l1.length : Int) % 3) < (t177.length : Int) then (if ((l1.length : Int) % 3) < (y188.length : Int) then ((impl_PageText.f kj7 t175 t176 (y188.set (((l1.length : Int) % 3) : Int).toNat (Int.tmod (wrap64 ((rd t177 ((l1.length : Int) % 3)) + 1)) 10))).bind fun t194 => (if t194.toList = t181.toList then (some false) else ((impl_PageText.f kj7 t175 4 t177).bind fun t195 => (some (t195.toList == ([] : List UInt8)))))) else (none)) else (none)) else (none))) else (none))) = some r := by rw [if_neg (show ¬ (false = true) by decide)] at H; exact H
       clear H
       have H := H1
       clear H1
       obtain ⟨y185, hy185⟩ : ∃ y_ : List Int, y_ = (([] : List Int)) := ⟨_, rfl⟩
       replace H : (if y185.length + t177.length < 17592186044416 then ((some (y185 ++ t177 : List Int)).bind fun y188 => (if 0 ≤ ((l1.length : Int) % 3) then (if ((l1.length : Int) % 3) < (t177.length : Int) then (if ((l1.length : Int) % 3) < (y188.length : Int) then ((impl_PageText.f kj7 t175 t176 (y188.set (((l1.length : Int) % 3) : Int).toNat (Int.tmod (wrap64 ((rd t177 ((l1.length : Int) % 3)) + 1)) 10))).bind fun t194 => (if t194.toList = t181.toList then (some false) else ((impl_PageText.f kj7 t175 4 t177).bind fun t195 => (some (t195.toList == ([] : List UInt8)))))) else (none)) else (none)) else (none))) else (none)) = some r := by first | (rw [hy185]; with_reducible exact H) | (have H2_ := (Option.bind_some _ _).symm.trans H; rw [hy185]; with_reducible exact H2_) | (have H2_ := (Option.bind_some _ _).symm.trans H; with_reducible exact H2_) | with_reducible exact H | (rw [hy185]; exact H) | exact H
       have Ny185 := az hy185
       clear hy185
       by_cases c28 : y185.length + t177.length < 17592186044416
       ·rw [if_pos c28] at H
        have LMc28 := az c28
        clear c28
        obtain ⟨y188, hy188⟩ : ∃ y_ : List Int, y_ = (y185 ++ t177) := ⟨_, rfl⟩
        replace H : (if 0 ≤ ((l1.length : Int) % 3) then (if ((l1.length : Int) % 3) < (t177.length : Int) then (if ((l1.length : Int) % 3) < (y188.length : Int) then ((impl_PageText.f kj7 t175 t176 (y188.set (((l1.length : Int) % 3) : Int).toNat (Int.tmod (wrap64 ((rd t177 ((l1.length : Int) % 3)) + 1)) 10))).bind fun t194 => (if t194.toList = t181.toList then (some false) else ((impl_PageText.f kj7 t175 4 t177).bind fun t195 => (some (t195.toList == ([] : List UInt8)))))) else (none)) else (none)) else (none)) = some r := by first | (rw [hy188]; with_reducible exact H) | (have H2_ := (Option.bind_some _ _).symm.trans H; rw [hy188]; with_reducible exact H2_) | (have H2_ := (Option.bind_some _ _).symm.trans H; with_reducible exact H2_) | with_reducible exact H | (rw [hy188]; exact H) | exact H
        have Ny188 := az hy188
        clear hy188
        obtain ⟨ji29, hji29⟩ : ∃ j_ : Int, ((l1.length : Int) % 3) = j_ := ⟨_, rfl⟩
        replace H : (if 0 ≤ (ji29) then (if (ji29) < (t177.length : Int) then (if (ji29) < (y188.length : Int) then ((impl_PageText.f kj7 t175 t176 (y188.set ((ji29) : Int).toNat (Int.tmod (wrap64 ((rd t177 (ji29)) + 1)) 10))).bind fun t194 => (if t194.toList = t181.toList then (some false) else ((impl_PageText.f kj7 t175 4 t177).bind fun t195 => (some (t195.toList == ([] : List UInt8)))))) else (none)) else (none)) else (none)) = some r := by first | (rw [hji29] at H; exact H) | (simp only [hji29] at H ⊢; exact H)
        by_cases c30 : 0 ≤ (ji29)
        ·rw [if_pos c30] at H
         have c30b0 : decide (0 ≤ (ji29)) = true := decide_eq_true c30
         clear c30
         by_cases c31 : (ji29) < (t177.length : Int)
         ·rw [if_pos c31] at H
          have c31b0 : decide ((ji29) < (t177.length : Int)) = true := decide_eq_true c31
          clear c31
          by_cases c32 : (ji29) < (y188.length : Int)
          ·rw [if_pos c32] at H
           have c32b0 : decide ((ji29) < (y188.length : Int)) = true := decide_eq_true c32
           clear c32
           obtain ⟨y192, hy192⟩ : ∃ y_ : List Int, y_ = (y188.set ((ji29) : Int).toNat (Int.tmod (wrap64 ((rd t177 (ji29)) + 1)) 10)) := ⟨_, rfl⟩
           replace H : ((impl_PageText.f kj7 t175 t176 y192).bind fun t194 => (if t194.toList = t181.toList then (some false) else ((impl_PageText.f kj7 t175 4 t177).bind fun t195 => (some (t195.toList == ([] : List UInt8)))))) = some r := by first | (rw [hy192]; with_reducible exact H) | (have H2_ := (Option.bind_some _ _).symm.trans H; rw [hy192]; with_reducible exact H2_) | (have H2_ := (Option.bind_some _ _).symm.trans H; with_reducible exact H2_) | with_reducible exact H | (rw [hy192]; exact H) | exact H
           have Ny192 := az hy192
           clear hy192
           replace H := Option.bind_eq_some_iff.mp H
           obtain ⟨t194, A340, H⟩ := H
           replace H : (if t194.toList = t181.toList then (some false) else ((impl_PageText.f kj7 t175 4 t177).bind fun t195 => (some (t195.toList == ([] : List UInt8))))) = some r := H
           have A34 := az A340
           clear A340
           by_cases c35 : t194.toList = t181.toList
           ·rw [if_pos c35] at H
            have c35b0 : (t194.toList == t181.toList) = true := beq_iff_eq.mpr c35
            have c35b1 : (t194.toList != t181.toList) = false := bne_eq_false_iff_eq.mpr c35
            clear c35
            obtain rfl := Option.some.inj H
            exact absurd hT_.out (by simp)
           ·rw [if_neg c35] at H
            have c35b0 : (t194.toList == t181.toList) = false := beq_eq_false_iff_ne.mpr c35
            have c35b1 : (t194.toList != t181.toList) = true := bne_iff_ne.mpr c35
            replace H := Option.bind_eq_some_iff.mp H
            obtain ⟨t195, A570, H⟩ := H
            replace H : (some (t195.toList == ([] : List UInt8))) = some r := H
            have A57 := az A570
            clear A570
            obtain rfl := Option.some.inj H
            obtain ⟨hcz58_0, hcz58_1, hcz58_2⟩ := cz3 BK180
            obtain ⟨hfz58_0, hfz58_1, hfz58_2⟩ := fz3 BK180
            try go_wp2_with (first | ((with_reducible refine gate_dst (N := 8) rfl ?_); (try (refine gate_guard (by rfl) ?_; dsimp only)); refine box_event ?hg (N := 8) ?hd (cs := #[.int .i64 0, .int .i64 0, .slice none 0 0]) (t := 25) ?hr ?_; (case hd => rfl); (case hg => rfl); (case hr => first | (go_simp; done) | (go_simp; rfl)); intro gb184 hg w59 hbox hb; replace HO_181002 := az (Kd.Q_below (by (with_reducible repeat (first | apply Kd.Q_alloc | apply Kd.Q_drewN | apply Kd.Q_drew)); exact HO_181002.out) hb); have BK184 := az (hbox); have GW184 := az ((by rw [hg]; exact (below_size (by repeat (first | (with_reducible first | exact HB.out | apply wa | apply wn | apply wd | refine ws ‹_› ?_) | exact HB.out))) : w.heap.size ≤ gb184)); have GE184 := GW184; replace HB := az (below_step (by repeat (first | (with_reducible first | exact HB.out | apply wa | apply wn | apply wd | refine ws ‹_› ?_) | exact HB.out)) hb); obtain ⟨NB180_184, NB184_180⟩ := nb BK180 hg (fun h => by (with_reducible repeat (first | apply bn | apply bd | apply ba)); exact h); replace BK180 := bb BK180 (fun h => by (with_reducible repeat (first | apply bn | apply bd | apply ba)); exact h) hb; clear hb hbox hg; have hnb60 := NB184_180.out; have hnc60 := NB180_184.out; obtain ⟨hcz61_0, hcz61_1, hcz61_2⟩ := cz3 BK184; have hfz61_0 := blk_frozen BK184.out 0; have hfz61_1 := blk_frozen BK184.out 1; have hfz61_2 := blk_frozen BK184.out 2) | ((with_reducible refine gate_dst (N := 43) rfl ?_); (try (refine gate_guard (by rfl) ?_; dsimp only)); refine Kd.R_lit (Kd.int .i64) _ 3 ?hg (N := 43) ?hd (xs := ([] : List Int)) (inner := []) (ok := fun _ => True) (okp := fun _ => True) ?hr ?hp (fun _ hk => hk) trivial (Below.refl _ _) (Nat.le_refl _) (by simp) ?_; (case hd => rfl); (case hg => rfl); (case hr => first | (go_simp; done) | (go_simp; rfl)); (case hp => exact (Reps.none _ _)); intro v186 w62 ho63 hb hg_ hnew_; clear hg_ hnew_; (first | rw [← Ny185.out] at ho63 | (simp only [Int.reduceToNat] at ho63; rw [← Ny185.out] at ho63)); have HO187 := az (Kd.R_lower (Kd.R_new' ho63 (Kd.Q_lt (by (with_reducible repeat (first | apply Kd.Q_alloc | apply Kd.Q_drewN | apply Kd.Q_drew)); exact (fQ3 HO_181002.out BK184.out (by decide))))) (below_size (by repeat (first | (with_reducible first | exact HB.out | apply wa | apply wn | apply wd | refine ws ‹_› ?_) | exact HB.out)))); replace HO_181002 := az (Kd.Q_elder' (by (with_reducible repeat (first | apply Kd.Q_alloc | apply Kd.Q_drewN | apply Kd.Q_drew)); exact (fQ3 HO_181002.out BK184.out (by decide))) (Kd.R_base ho63) hb); replace BK180 := az (blk_below (g := gb180) (o := .cells #[.int .i64 t175, .int .i64 t176, .slice Ao12 t177.length co12] 25 (0, 0)) (by (repeat (first | (with_reducible first | apply bn | apply bd | apply ba) | apply bf NB180_184)); exact BK180.out) hb); replace BK184 := az (blk_below (g := gb184) (o := .cells #[.int .i64 t175, .int .i64 t176, .slice Ao12 t177.length co12] 25 (0, 0)) (by (with_reducible repeat (first | apply bn | apply bd | apply ba)); exact p3 BK184) hb); replace HB := az (below_step (by repeat (first | (with_reducible first | exact HB.out | apply wa | apply wn | apply wd | refine ws ‹_› ?_) | exact HB.out)) hb); clear hb ho63; obtain ⟨hcz64_0, hcz64_1, hcz64_2⟩ := cz3 BK180; have hfz64_0 := blk_frozen BK180.out 0; have hfz64_1 := blk_frozen BK180.out 1; have hfz64_2 := blk_frozen BK180.out 2) | ((with_reducible refine gate_builtin (b := .append) (xs := #[.tmp 43, .tmp 45]) rfl ?_); (try (refine gate_guard (by rfl) ?_; dsimp only)); at_builtin; refine Kd.R_append_rows (Kd.int .i64) (w0 := w) w.heap.size rfl (.tmp 43) (.tmp 45) 23 3 (.int .i64 0) 8 rfl Tryd.underlying23 info3 rfl (by decide) (by omega) v186 y185 t177 _ _ _ (fun k_ => some k_ ≠ (.slice Ao12 t177.length co12 : Value).ownBlock) (fun _ => False) rfl rfl ?aO ?aR (fun _ _ h => h) (fun _ h => h.elim) ?aF ?aB ?aS ?aL ?_; (case aR => repeat (first | exact (Kd.Q_reads' HO_181002.out).2.2 | (with_reducible refine Kd.C_alloc ?_ _) | (with_reducible refine Kd.C_drewN ?_ _) | (with_reducible refine Kd.C_drew ?_))); (case aB => exact (by repeat (first | (with_reducible first | exact HB.out | apply wa | apply wn | apply wd | refine ws ‹_› ?_) | exact HB.out))); (case aF => exact (fun k_ hk => Kd.fresh' (Kd.Q_lt (by (with_reducible repeat (first | apply Kd.Q_alloc | apply Kd.Q_drewN | apply Kd.Q_drew)); exact HO_181002.out)) k_ hk)); (case aO => exact (by (with_reducible repeat (first | apply Kd.R_alloc | apply Kd.R_drewN | apply Kd.R_drew)); exact Kd.R_mono HO187.out (fun _ hk => hk.2))); (case aS => exact (below_size (by repeat (first | (with_reducible first | exact HB.out | apply wa | apply wn | apply wd | refine ws ‹_› ?_) | exact HB.out)))); (case aL => have := LMc28.out; omega); intro v189 w65 ho hb hg hat; rw [← Ny188.out] at ho; replace HO_181002 := az (Kd.Q_after (ok := (fun _ => True)) (by (with_reducible repeat (first | apply Kd.Q_alloc | apply Kd.Q_drewN | apply Kd.Q_drew)); exact HO_181002.out) hg hat); replace BK180 := az (blk_grown (g := gb180) (o := .cells #[.int .i64 t175, .int .i64 t176, .slice Ao12 t177.length co12] 25 (0, 0)) (by (with_reducible repeat (first | apply bn | apply bd | apply ba)); exact BK180.out) hg (Kd.R_ne HO187.out BK180.out (by decide))); replace BK184 := az (blk_grown (g := gb184) (o := .cells #[.int .i64 t175, .int .i64 t176, .slice Ao12 t177.length co12] 25 (0, 0)) (by (with_reducible repeat (first | apply bn | apply bd | apply ba)); exact BK184.out) hg (Kd.R_ne HO187.out BK184.out (by decide))); replace HB := az (hb); have HO190 := az (ho); clear HO187; clear ho hb hg hat; obtain ⟨Ao66, co66, eo66⟩ := Kd.R_slice HO190.out; subst eo66; obtain ⟨hcz67_0, hcz67_1, hcz67_2⟩ := cz3 BK184; have hfz67_0 := blk_frozen BK184.out 0; have hfz67_1 := blk_frozen BK184.out 1; have hfz67_2 := blk_frozen BK184.out 2))
            have n0_ : Aside0 (Kd.Q (Kd.int .i64) 3 (w65.setCell ⟨gb184, 2, none⟩ (.slice Ao66 y188.length co66)) w.heap.size (fun k_ => some k_ ≠ (.slice Ao66 y188.length co66 : Value).ownBlock) (.slice Ao12 t177.length co12) t177) := ⟨by (with_reducible repeat (first | apply Kd.Q_alloc | apply Kd.Q_drewN | apply Kd.Q_drew)); exact Kd.Q_mono (Kd.Q_far (p := ⟨gb184, 2, none⟩) (Kd.Q_types HO_181002.out BK184.out (by decide)) (fun _ hk => hk.2) (.slice Ao66 y188.length co66)) (fun _ hk => hk.1.2)⟩
            have n1_ : Aside0 (Kd.R (Kd.int .i64) 3 (w65.setCell ⟨gb184, 2, none⟩ (.slice Ao66 y188.length co66)) w.heap.size (fun k_ => some k_ ≠ (.slice Ao12 t177.length co12 : Value).ownBlock) (.slice Ao66 y188.length co66) y188) := ⟨by (with_reducible repeat (first | apply Kd.R_alloc | apply Kd.R_drewN | apply Kd.R_drew)); exact Kd.R_mono (Kd.R_far (p := ⟨gb184, 2, none⟩) (Kd.R_types HO190.out BK184.out (by decide)) (fun _ hk => hk.2) (.slice Ao66 y188.length co66)) (fun _ hk => hk.1)⟩
            have n2_ : Aside0 ((w65.setCell ⟨gb184, 2, none⟩ (.slice Ao66 y188.length co66)).heap[gb180]? = some (.cells #[.int .i64 t175, .int .i64 t176, .slice Ao12 t177.length co12] 25 (0, 0))) := ⟨by (repeat (first | (with_reducible first | apply bn | apply bd | apply ba) | apply bf NB180_184)); exact BK180.out⟩
            have n3_ : Aside0 ((w65.setCell ⟨gb184, 2, none⟩ (.slice Ao66 y188.length co66)).heap[gb184]? = some (.cells #[.int .i64 t175, .int .i64 t176, .slice Ao66 y188.length co66] 25 (0, 0))) := ⟨by (with_reducible repeat (first | apply bn | apply bd | apply ba)); refine blk_put (cs := #[.int .i64 t175, .int .i64 t176, .slice Ao12 t177.length co12]) ?_ 2 _ rfl; (with_reducible repeat (first | apply bn | apply bd | apply ba)); exact BK184.out⟩
            have n4_ : Aside0 (Below w.heap.size w (w65.setCell ⟨gb184, 2, none⟩ (.slice Ao66 y188.length co66))) := ⟨by repeat (first | (with_reducible first | exact HB.out | apply wa | apply wn | apply wd | refine ws ‹_› ?_) | exact HB.out)⟩
            (try clear HO_181002);(try clear HO190);(try clear BK180);(try clear BK184);(try clear HB)
            generalize (w65.setCell ⟨gb184, 2, none⟩ (.slice Ao66 y188.length co66)) = w68 at n0_ n1_ n2_ n3_ n4_ ⊢
            have HO_181002 := n0_
            have HO190 := n1_
            have BK180 := n2_
            have BK184 := n3_
            have HB := n4_
            clear n0_ n1_ n2_ n3_ n4_
            replace HO_181002 := az (Kd.Q_drew HO_181002.out)
            replace HO190 := az (Kd.R_drew HO190.out)
            replace BK180 := az (blk_drew BK180.out)
            replace BK184 := az (blk_drew BK184.out)
            replace HB := az (wd HB.out)
            have p191 : 0 ≤ ((ji29) : Int) := of_decide_eq_true (by first | (with_reducible assumption) | assumption)
            have q191 : (ji29) < (t177.length : Int) := of_decide_eq_true (by first | (with_reducible assumption) | assumption)
            obtain ⟨ad191, e191, hx191_0⟩ := Kd.at_int (Kd.Q_reads' HO_181002.out).2.2 (ji29) p191 q191
            cases e191
            replace p191 := eq_true p191
            replace q191 := eq_true q191
            have p33 : 0 ≤ ((ji29) : Int) := of_decide_eq_true (by first | (with_reducible assumption) | assumption)
            have q33 : ((ji29) : Int) < ((y188.length : Int) : Int) := of_decide_eq_true (by first | (with_reducible assumption) | assumption)
            obtain ⟨go33, co33, eo33, gb33, gl33, cl33, HG33⟩ := Kd.R_form HO190.out (by omega)
            (first | cases eo33 | (injection eo33 with ea_ en_ ec_; (first | subst ea_ | (injection ea_ with ea_; subst ea_)); subst ec_; clear en_))
            have GB33 := az gb33
            have GG33 := az HG33
            clear gb33 gl33 HG33
            obtain ⟨hx33_0, hf33_0⟩ := Kd.R_celln 0 HO190.out ((ji29) : Int) p33 q33
            replace p33 := eq_true p33
            replace q33 := eq_true q33
            have HP70 := Kd.R_putn HO190.out ((ji29) : Int) (Int.tmod (wrap64 ((rd t177 (ji29)) + 1)) 10)
            rw [← Ny192.out] at HP70
            have HQ70 := az HP70
            clear HP70
            refine start_ (n := 12) (S := fun w' => w'.cell? ⟨gb184, 0, none⟩ = some (.int .i64 t175) ∧ w'.cell? ⟨gb184, 1, none⟩ = some (.int .i64 t176) ∧ w'.cell? ⟨gb184, 2, none⟩ = some (.slice (some ⟨go33, 0, none⟩) y188.length co66) ∧ w'.cell? ⟨gb180, 0, none⟩ = some (.int .i64 t175) ∧ w'.cell? ⟨gb180, 1, none⟩ = some (.int .i64 t176) ∧ w'.cell? ⟨gb180, 2, none⟩ = some (.slice (some ad191) t177.length co12) ∧ w'.cell? (ad191.add ((ji29)).toNat) = some (.int .i64 (rd t177 (ji29)))) (ds := [11]) #[false, false, false, false, false, false, false, false, false, false, false, false] (by kernel_rfl) rfl rfl ⟨bt BK184 rfl, bt BK184 rfl, bt BK184 rfl, bt BK180 rfl, bt BK180 rfl, bt BK180 rfl, hx191_0⟩ (fun hHeld => ?_); refine with_tabW laws_FnPageCopy.tab10 laws_FnPageCopy.bits10 (fun HT_ HW_ => ?_)
            generalize w68.drew = w69 at HO_181002 HO190 BK180 BK184 HB GG33 HQ70 hf33_0 hx191_0 hx33_0 hHeld ⊢
            refine pure_ (i := 0) (N := some 48) (v := ?_) (a' := ?_) #[true, false, false, false, false, false, false, false, false, false, false, false] rfl rfl (any_of HT_.out (by kernel_rfl)) (fun _ _ _ h => h) (Or.inl ⟨by rfl, ?_⟩) ?_ ?_
            rotate_left
            ·intro w'
             go_simp
             with_reducible rfl
            rotate_left
            ·simp only [Act.put, List.setIfInBounds_toArray, List.set_cons_zero, List.set_cons_succ, i64_w, i32_w]
             rfl
            refine pure_ (i := 2) (N := some 50) (v := ?_) (a' := ?_) #[true, false, true, false, false, false, false, false, false, false, false, false] rfl rfl (any_of HT_.out (by kernel_rfl)) (fun _ _ _ h => h) (Or.inl ⟨by rfl, ?_⟩) ?_ ?_
            rotate_left
            ·intro w'
             go_simp
             with_reducible rfl
            rotate_left
            ·simp only [Act.put, List.setIfInBounds_toArray, List.set_cons_zero, List.set_cons_succ, i64_w, i32_w]
             rfl
            refine pure_ (i := 3) (N := some 51) (v := ?_) (a' := ?_) #[true, false, true, true, false, false, false, false, false, false, false, false] rfl rfl (any_of HT_.out (by kernel_rfl)) (fun _ _ _ h => h) (Or.inl ⟨by rfl, ?_⟩) ?_ ?_
            rotate_left
            ·intro w'
             go_simp
             with_reducible rfl
            rotate_left
            ·simp only [Act.put, List.setIfInBounds_toArray, List.set_cons_zero, List.set_cons_succ, i64_w, i32_w]
             rfl
            refine pure_ (i := 5) (N := some 53) (v := ?_) (a' := ?_) #[true, false, true, true, false, true, false, false, false, false, false, false] rfl rfl (any_of HT_.out (by kernel_rfl)) (fun _ _ _ h => h) (Or.inl ⟨by rfl, ?_⟩) ?_ ?_
            rotate_left
            ·intro w'
             go_simp
             with_reducible rfl
            rotate_left
            ·simp only [Act.put, List.setIfInBounds_toArray, List.set_cons_zero, List.set_cons_succ, i64_w, i32_w]
             rfl
            refine take_ (i := 1) (N := some 49) (v := ?_) (a' := ?_) #[true, true, true, true, false, true, false, false, false, false, false, false] rfl rfl (take_ofW HT_.out HW_.out (by kernel_rfl)) (fun _ _ _ h => h) (Or.inl ⟨by rfl, ?_⟩) hHeld ?_ ?_
            rotate_left
            ·rintro w' ⟨s0, s1, s2, s3, s4, s5, s6⟩
             go_simp
             with_reducible rfl
            rotate_left
            ·simp only [Act.put, List.setIfInBounds_toArray, List.set_cons_zero, List.set_cons_succ, i64_w, i32_w]
             rfl
            refine take_ (i := 4) (N := some 52) (v := ?_) (a' := ?_) #[true, true, true, true, true, true, false, false, false, false, false, false] rfl rfl (take_ofW HT_.out HW_.out (by kernel_rfl)) (fun _ _ _ h => h) (Or.inl ⟨by rfl, ?_⟩) hHeld ?_ ?_
            rotate_left
            ·rintro w' ⟨s0, s1, s2, s3, s4, s5, s6⟩
             go_simp
             with_reducible rfl
            rotate_left
            ·simp only [Act.put, List.setIfInBounds_toArray, List.set_cons_zero, List.set_cons_succ, i64_w, i32_w]
             rfl
            refine pure_ (i := 6) (N := some 54) (v := ?_) (a' := ?_) #[true, true, true, true, true, true, true, false, false, false, false, false] rfl rfl (any_of HT_.out (by kernel_rfl)) (fun _ _ _ h => h) (Or.inl ⟨by rfl, ?_⟩) ?_ ?_
            rotate_left
            ·intro w'
             go_simp
             with_reducible rfl
            rotate_left
            ·simp only [Act.put, List.setIfInBounds_toArray, List.set_cons_zero, List.set_cons_succ, i64_w, i32_w]
             rfl
            refine take_ (i := 7) (N := some 55) (v := ?_) (a' := ?_) #[true, true, true, true, true, true, true, true, false, false, false, false] rfl rfl (take_ofW HT_.out HW_.out (by kernel_rfl)) (fun _ _ _ h => h) (Or.inl ⟨by rfl, ?_⟩) hHeld ?_ ?_
            rotate_left
            ·rintro w' ⟨s0, s1, s2, s3, s4, s5, s6⟩
             go_simp
             with_reducible rfl
            rotate_left
            ·simp only [Act.put, List.setIfInBounds_toArray, List.set_cons_zero, List.set_cons_succ, i64_w, i32_w]
             rfl
            refine pure_ (i := 8) (N := some 56) (v := ?_) (a' := ?_) #[true, true, true, true, true, true, true, true, true, false, false, false] rfl rfl (any_of HT_.out (by kernel_rfl)) (fun _ _ _ h => h) (Or.inl ⟨by rfl, ?_⟩) ?_ ?_
            rotate_left
            ·intro w'
             go_simp
             with_reducible rfl
            rotate_left
            ·simp only [Act.put, List.setIfInBounds_toArray, List.set_cons_zero, List.set_cons_succ, i64_w, i32_w]
             rfl
            refine pure_ (i := 9) (N := some 57) (v := ?_) (a' := ?_) #[true, true, true, true, true, true, true, true, true, true, false, false] rfl rfl (any_of HT_.out (by kernel_rfl)) (fun _ _ _ h => h) (Or.inl ⟨by rfl, ?_⟩) ?_ ?_
            rotate_left
            ·intro w'
             go_simp
             with_reducible rfl
            rotate_left
            ·simp only [Act.put, List.setIfInBounds_toArray, List.set_cons_zero, List.set_cons_succ, i64_w, i32_w]
             rfl
            refine pure_ (i := 10) (N := some 58) (v := ?_) (a' := ?_) #[true, true, true, true, true, true, true, true, true, true, true, false] rfl rfl (any_of HT_.out (by kernel_rfl)) (fun _ _ _ h => h) (Or.inl ⟨by rfl, ?_⟩) ?_ ?_
            rotate_left
            ·intro w'
             go_simp
             with_reducible rfl
            rotate_left
            ·simp only [Act.put, List.setIfInBounds_toArray, List.set_cons_zero, List.set_cons_succ, i64_w, i32_w]
             rfl
            refine last_ (i := 11) (N := none) #[true, true, true, true, true, true, true, true, true, true, true, true] rfl rfl (one_of HT_.out (by kernel_rfl)) (by decide) (fun K hK => ?_)
            refine skip_ (w1 := ?_) (by rfl) rfl ?_ ?_
            rotate_left
            ·go_simp
             rfl
            refine hK.out _ _ ?_
            clear hK K
            refine done_ (done_of HT_.out (by kernel_rfl)) ?_
            have n0_ : Aside0 (Kd.Q (Kd.int .i64) 3 (w69.setCell ⟨go33, ((ji29) : Int).toNat, none⟩ (.int .i64 (Int.tmod (wrap64 ((rd t177 (ji29)) + 1)) 10))) w.heap.size (fun k_ => some k_ ≠ (.slice (some ⟨go33, 0, none⟩) y188.length co66 : Value).ownBlock) (.slice (some ad191) t177.length co12) t177) := ⟨by (with_reducible repeat (first | apply Kd.Q_alloc | apply Kd.Q_drewN | apply Kd.Q_drew)); exact Kd.Q_mono (Kd.Q_far (p := ⟨go33, ((ji29) : Int).toNat, none⟩) (Kd.Q_mono HO_181002.out (fun k_ hk => (⟨hk, fun e_ => hk (by rw [e_]; rfl)⟩ : _ ∧ k_ ≠ go33))) (fun _ hk => hk.2) (.int .i64 (Int.tmod (wrap64 ((rd t177 (ji29)) + 1)) 10))) (fun _ hk => hk.1)⟩
            have n1_ : Aside0 (Kd.R (Kd.int .i64) 3 (w69.setCell ⟨go33, ((ji29) : Int).toNat, none⟩ (.int .i64 (Int.tmod (wrap64 ((rd t177 (ji29)) + 1)) 10))) w.heap.size (fun k_ => some k_ ≠ (.slice (some ad191) t177.length co12 : Value).ownBlock) (.slice (some ⟨go33, 0, none⟩) y188.length co66) y192) := ⟨by (with_reducible repeat (first | apply Kd.R_alloc | apply Kd.R_drewN | apply Kd.R_drew)); exact HQ70.out⟩
            have n2_ : Aside0 ((w69.setCell ⟨go33, ((ji29) : Int).toNat, none⟩ (.int .i64 (Int.tmod (wrap64 ((rd t177 (ji29)) + 1)) 10))).heap[gb180]? = some (.cells #[.int .i64 t175, .int .i64 t176, .slice (some ad191) t177.length co12] 25 (0, 0))) := ⟨by (with_reducible repeat (first | apply bn | apply bd | apply ba)); refine blk_far ?_ (by have h_ := Kd.R_ne HO190.out BK180.out (by decide); intro e_; exact h_ (by rw [e_]; rfl)) _; (with_reducible repeat (first | apply bn | apply bd | apply ba)); exact BK180.out⟩
            have n3_ : Aside0 ((w69.setCell ⟨go33, ((ji29) : Int).toNat, none⟩ (.int .i64 (Int.tmod (wrap64 ((rd t177 (ji29)) + 1)) 10))).heap[gb184]? = some (.cells #[.int .i64 t175, .int .i64 t176, .slice (some ⟨go33, 0, none⟩) y188.length co66] 25 (0, 0))) := ⟨by (with_reducible repeat (first | apply bn | apply bd | apply ba)); refine blk_far ?_ (by have h_ := Kd.R_ne HO190.out BK184.out (by decide); intro e_; exact h_ (by rw [e_]; rfl)) _; (with_reducible repeat (first | apply bn | apply bd | apply ba)); exact BK184.out⟩
            have n4_ : Aside0 (Below w.heap.size w (w69.setCell ⟨go33, ((ji29) : Int).toNat, none⟩ (.int .i64 (Int.tmod (wrap64 ((rd t177 (ji29)) + 1)) 10)))) := ⟨by repeat (first | (with_reducible first | exact HB.out | apply wa | apply wn | apply wd | refine below_set ?_ GB33.out | refine ws ‹_› ?_) | exact HB.out)⟩
            (try clear HO_181002);(try clear HO190);(try clear BK180);(try clear BK184);(try clear HB)
            generalize (w69.setCell ⟨go33, ((ji29) : Int).toNat, none⟩ (.int .i64 (Int.tmod (wrap64 ((rd t177 (ji29)) + 1)) 10))) = w71 at n0_ n1_ n2_ n3_ n4_ ⊢
            have HO_181002 := n0_
            have HO190 := n1_
            have BK180 := n2_
            have BK184 := n3_
            have HB := n4_
            clear n0_ n1_ n2_ n3_ n4_
            obtain ⟨hcz72_0, hcz72_1, hcz72_2⟩ := cz3 BK180
            obtain ⟨hfz72_0, hfz72_1, hfz72_2⟩ := fz3 BK180
            try go_wp2_with (first | ((with_reducible refine gate_dst (N := 9) rfl ?_); (try (refine gate_guard (by rfl) ?_; dsimp only)); refine box_event ?hg (N := 9) ?hd (cs := #[.int .i64 0, .int .i64 0, .slice none 0 0]) (t := 25) ?hr ?_; (case hd => rfl); (case hg => rfl); (case hr => first | (go_simp; done) | (go_simp; rfl)); intro gb193 hg w73 hbox hb; replace HO_181002 := az (Kd.Q_below (by (with_reducible repeat (first | apply Kd.Q_alloc | apply Kd.Q_drewN | apply Kd.Q_drew)); exact HO_181002.out) hb); replace HO190 := az (Kd.R_below (by (with_reducible repeat (first | apply Kd.R_alloc | apply Kd.R_drewN | apply Kd.R_drew)); exact HO190.out) hb); have BK193 := az (hbox); have GW193 := az ((by rw [hg]; exact (below_size (by repeat (first | (with_reducible first | exact HB.out | apply wa | apply wn | apply wd | refine ws ‹_› ?_) | exact HB.out))) : w.heap.size ≤ gb193)); have GE193 := GW193; replace HB := az (below_step (by repeat (first | (with_reducible first | exact HB.out | apply wa | apply wn | apply wd | refine ws ‹_› ?_) | exact HB.out)) hb); obtain ⟨NB180_193, NB193_180⟩ := nb BK180 hg (fun h => by (with_reducible repeat (first | apply bn | apply bd | apply ba)); exact h); replace BK180 := bb BK180 (fun h => by (with_reducible repeat (first | apply bn | apply bd | apply ba)); exact h) hb; obtain ⟨NB184_193, NB193_184⟩ := nb BK184 hg (fun h => by (with_reducible repeat (first | apply bn | apply bd | apply ba)); exact h); replace BK184 := bb BK184 (fun h => by (with_reducible repeat (first | apply bn | apply bd | apply ba)); exact h) hb; clear hb hbox hg; have hnb74 := NB193_180.out; have hnc74 := NB180_193.out; have hnb75 := NB193_184.out; have hnc75 := NB184_193.out; obtain ⟨hcz76_0, hcz76_1, hcz76_2⟩ := cz3 BK193; obtain ⟨hfz76_0, hfz76_1, hfz76_2⟩ := fz3 BK193; obtain ⟨hcz77_0, hcz77_1, hcz77_2⟩ := cz3 BK184; have hfz77_0 := blk_frozen BK184.out 0; have hfz77_1 := blk_frozen BK184.out 1; have hfz77_2 := blk_frozen BK184.out 2) | ((with_reducible refine gate_callee (f := 13) rfl ?_); refine goesL_ (some 62) rfl rfl Tryd.func13 (by kernel_rfl) rfl #[.agg #[.int .i64 t175, .int .i64 t176, .slice (some ⟨go33, 0, none⟩) y192.length co66]] rfl (by (try simp only [List.map_toArray, List.map_cons, List.map_nil]); first | done | (rw [show y192.length = y188.length from (Kd.R_reads' HO190.out).1.symm] <;> rfl) | rfl | (simp only [List.length_drop, List.length_take]; rfl)) ?_; (with_reducible refine (impl_PageText.calls kj7 t175 t176 _ _ y192 t194 _ ?side1 ?side2 A34.out).mono ?_); (case side1 => refine (Kd.R_reads' (e := 3) (base := w.heap.size) (ok := fun k_ => some k_ ≠ (.slice (some ad191) t177.length co12 : Value).ownBlock) (n := y188.length) (c := co66) ?_).2.2; exact (by (with_reducible repeat (first | apply Kd.R_alloc | apply Kd.R_drewN | apply Kd.R_drew)); exact (fR4 HO190.out BK193.out (by decide)))); (case side2 => rw [show y192.length = y188.length from (Kd.R_reads' HO190.out).1.symm]; exact (Kd.R_reads' HO190.out).2.1); rintro e w78 ⟨rfl, hb⟩; refine ⟨_, rfl, ?_⟩; replace HO_181002 := az (Kd.Q_below (by (with_reducible repeat (first | apply Kd.Q_alloc | apply Kd.Q_drewN | apply Kd.Q_drew)); exact (fQ4 HO_181002.out BK193.out (by decide))) hb); replace HO190 := az (Kd.R_below (by (with_reducible repeat (first | apply Kd.R_alloc | apply Kd.R_drewN | apply Kd.R_drew)); exact (fR4 HO190.out BK193.out (by decide))) hb); replace BK180 := az (blk_below (g := gb180) (o := .cells #[.int .i64 t175, .int .i64 t176, .slice (some ad191) t177.length co12] 25 (0, 0)) (by (repeat (first | (with_reducible first | apply bn | apply bd | apply ba) | apply bf NB180_193)); exact BK180.out) hb); replace BK184 := az (blk_below (g := gb184) (o := .cells #[.int .i64 t175, .int .i64 t176, .slice (some ⟨go33, 0, none⟩) y188.length co66] 25 (0, 0)) (by (repeat (first | (with_reducible first | apply bn | apply bd | apply ba) | apply bf NB184_193)); exact BK184.out) hb); replace BK193 := az (blk_below (g := gb193) (o := .cells #[.int .i64 t175, .int .i64 4, .slice (some ad191) t177.length co12] 25 (0, 0)) (by (with_reducible repeat (first | apply bn | apply bd | apply ba)); refine blk_put (cs := #[.int .i64 t175, .int .i64 t176, .slice (some ad191) t177.length co12]) ?_ 1 _ rfl; (with_reducible repeat (first | apply bn | apply bd | apply ba)); exact p3 BK193) hb); replace HB := az (below_step (by repeat (first | (with_reducible first | exact HB.out | apply wa | apply wn | apply wd | refine ws ‹_› ?_) | exact HB.out)) hb); (try clear hb); (try clear hb2); (try clear hk); (try clear hi); obtain ⟨hcz79_0, hcz79_1, hcz79_2⟩ := cz3 BK193; have hfz79_0 := blk_frozen BK193.out 0; have hfz79_1 := blk_frozen BK193.out 1; have hfz79_2 := blk_frozen BK193.out 2) | (go_at_call 13; (with_reducible refine (impl_PageText.calls kj7 t175 4 _ _ t177 t195 _ ?side1 ?side2 A57.out).mono ?_); (case side1 => repeat (first | exact (Kd.Q_reads' HO_181002.out).2.2 | (with_reducible refine Kd.C_alloc ?_ _) | (with_reducible refine Kd.C_drewN ?_ _) | (with_reducible refine Kd.C_drew ?_))); (case side2 => exact (Kd.Q_reads' HO_181002.out).2.1); rintro e w80 ⟨rfl, hb⟩; replace HO_181002 := az (Kd.Q_below (by (with_reducible repeat (first | apply Kd.Q_alloc | apply Kd.Q_drewN | apply Kd.Q_drew)); exact HO_181002.out) hb); replace HO190 := az (Kd.R_below (by (with_reducible repeat (first | apply Kd.R_alloc | apply Kd.R_drewN | apply Kd.R_drew)); exact HO190.out) hb); replace BK180 := bb BK180 (fun h => by (with_reducible repeat (first | apply bn | apply bd | apply ba)); exact h) hb; replace BK184 := bb BK184 (fun h => by (with_reducible repeat (first | apply bn | apply bd | apply ba)); exact h) hb; replace BK193 := bb BK193 (fun h => by (with_reducible repeat (first | apply bn | apply bd | apply ba)); exact h) hb; replace HB := az (below_step (by repeat (first | (with_reducible first | exact HB.out | apply wa | apply wn | apply wd | refine ws ‹_› ?_) | exact HB.out)) hb); (try clear hb); (try clear hb2); (try clear hk); (try clear hi)))
            go_ret
            exact ⟨by first | rfl | (simp [errW_none, errW_some] <;> rfl) | (simp only [← hji29]; first | rfl | (simp [errW_none, errW_some] <;> rfl)) | (simp [*, errW_none, errW_some] <;> rfl), by repeat (first | (with_reducible first | exact HB.out | apply wa | apply wn | apply wd | refine ws ‹_› ?_) | exact HB.out)⟩
          ·rw [if_neg c32] at H
           exact absurd H (by simp)
         ·rw [if_neg c31] at H
          exact absurd H (by simp)
        ·rw [if_neg c30] at H
         exact absurd H (by simp)
       ·rw [if_neg c28] at H
        exact absurd H (by simp)

end Go.Proofs.YtajdjoggflagdaaDoor.Pr
