-- Laid by a program (extract.py) out of this seat's translation: contracts of a few functions, a text a function; Lean checks them.
import Derived.Test.YtajdjoggflagdaaDoorPrK
import Derived.Test.YtajdjoggflagdaaDoorRRx
import Derived.Test.YtajdjoggflagdaaDoorPrDRT
import Derived.Test.YtajdjoggflagdaaDoorSq
namespace Go.Proofs.YtajdjoggflagdaaDoor.Pr
open Go.RowKit Go.Proofs.YtajdjoggflagdaaDoorW.PrintWords Go.Proofs.YtajdjoggflagdaaDoorW.PrintLast Go.Proofs.YtajdjoggflagdaaDoorW.PrintMore
attribute [local go_sem] max2_int min2_int max_two min_two max_three min_three max_four min_four
set_option linter.unusedVariables false
set_option linter.unusedSimpArgs false
theorem eqA37 (d : Nat) (w : World) (x0 y0 : Int) (x1 y1 : Int) (x2 y2 : Int) (x3 y3 : Int) (x4 y4 : Int) (x5 y5 : Int) (x6 y6 : Int) (x7 y7 : Int) :
  (Op.equalIn (d + 2) 37 (.agg #[.int .i64 x0, .int .i64 x1, .int .i64 x2, .int .i64 x3, .int .i64 x4, .int .i64 x5, .int .i64 x6, .int .i64 x7]) (.agg #[.int .i64 y0, .int .i64 y1, .int .i64 y2, .int .i64 y3, .int .i64 y4, .int .i64 y5, .int .i64 y6, .int .i64 y7])).run Tryd.prog w = .ok (x0 == y0 && (x1 == y1 && (x2 == y2 && (x3 == y3 && (x4 == y4 && (x5 == y5 && (x6 == y6 && (x7 == y7)))))))) w := by
 refine eqA_of Tryd.underlying37 (by kernel_rfl) ?_
 refine eqf_cons (by rfl) (by go_simp; rfl) (by go_simp; rfl) (by go_simp) ?_
 refine eqf_cons (by rfl) (by go_simp; rfl) (by go_simp; rfl) (by go_simp) ?_
 refine eqf_cons (by rfl) (by go_simp; rfl) (by go_simp; rfl) (by go_simp) ?_
 refine eqf_cons (by rfl) (by go_simp; rfl) (by go_simp; rfl) (by go_simp) ?_
 refine eqf_cons (by rfl) (by go_simp; rfl) (by go_simp; rfl) (by go_simp) ?_
 refine eqf_cons (by rfl) (by go_simp; rfl) (by go_simp; rfl) (by go_simp) ?_
 refine eqf_cons (by rfl) (by go_simp; rfl) (by go_simp; rfl) (by go_simp) ?_
 exact eqf_last (by rfl) (by go_simp; rfl) (by go_simp; rfl) (by go_simp)
attribute [local go_sem high] eqA37
/-! ### laws_FnRecCut: function 9 -/
def laws_FnRecCut.j0 : Nat → ByteArray → Bool → Int → Int → Int → Int → Int → Int → Int → Int → Option (Bool)
 | 0, _, _, _, _, _, _, _, _, _, _ => none
 | k + 1, x4, x25, x284000, x284001, x284002, x284003, x284004, x284005, x284006, x284007 => if x25 = true then ((spec_RecText.f k x284000 x284001 x284002 x284003 x284004 x284005 x284006 x284007).bind fun t286 => (some (x4.toList == t286.toList))) else (if 0 ≤ (wrap64 ((x4.size : Int) - 1)) then (if (wrap64 ((x4.size : Int) - 1)) ≤ (x4.size : Int) then ((impl_RecRead.f k (x4.extract 0 ((wrap64 ((x4.size : Int) - 1)) : Int).toNat)).bind fun bt287 => (if x4.size + 1 ≤ 9223372036854775807 then ((impl_RecRead.f k (x4 ++ (⟨#[32]⟩ : ByteArray))).bind fun bt297 => (if x4.size + 2 ≤ 9223372036854775807 then ((impl_RecRead.f k (x4 ++ (⟨#[32, 48]⟩ : ByteArray))).bind fun bt307 => (if bt287.2.2.2.2.2.2.2.2 = true then (if (!(bt287.1 == x284000) || (!(bt287.2.1 == x284001) || (!(bt287.2.2.1 == x284002) || (!(bt287.2.2.2.1 == x284003) || (!(bt287.2.2.2.2.1 == x284004) || (!(bt287.2.2.2.2.2.1 == x284005) || (!(bt287.2.2.2.2.2.2.1 == x284006) || (!(bt287.2.2.2.2.2.2.2.1 == x284007))))))))) = true then (if bt297.2.2.2.2.2.2.2.2 = true then (some false) else (some (!bt307.2.2.2.2.2.2.2.2))) else (some false)) else (if bt297.2.2.2.2.2.2.2.2 = true then (some false) else (some (!bt307.2.2.2.2.2.2.2.2))))) else (none))) else (none))) else (none)) else (none))
def laws_FnRecCut.f (k : Nat) (l0 : List Int) : Option (Bool) := if (l0.length : Int) > 1048576 then (some true) else ((spec_DrawRecText.f k l0).bind fun bt275 => ((impl_RecText.f k bt275.1 bt275.2.1 bt275.2.2.1 bt275.2.2.2.1 bt275.2.2.2.2.1 bt275.2.2.2.2.2.1 bt275.2.2.2.2.2.2.1 bt275.2.2.2.2.2.2.2).bind fun t284 => ((spec_RecText.f k bt275.1 bt275.2.1 bt275.2.2.1 bt275.2.2.2.1 bt275.2.2.2.2.1 bt275.2.2.2.2.2.1 bt275.2.2.2.2.2.2.1 bt275.2.2.2.2.2.2.2).bind fun t285 => (if t284.toList = t285.toList then (laws_FnRecCut.j0 k t284 (t284.toList == ([] : List UInt8)) bt275.1 bt275.2.1 bt275.2.2.1 bt275.2.2.2.1 bt275.2.2.2.2.1 bt275.2.2.2.2.2.1 bt275.2.2.2.2.2.2.1 bt275.2.2.2.2.2.2.2) else (laws_FnRecCut.j0 k t284 true bt275.1 bt275.2.1 bt275.2.2.1 bt275.2.2.2.1 bt275.2.2.2.2.1 bt275.2.2.2.2.2.1 bt275.2.2.2.2.2.2.1 bt275.2.2.2.2.2.2.2)))))
set_option maxHeartbeats 8000000 in
set_option maxRecDepth 100000 in
theorem laws_FnRecCut.calls (k : Nat) (A0 : Option Addr) (c0 : Nat) (l0 : List Int) (r : Bool) (w : World) (hdoor : Door w) (hr0 : Kd.C (Kd.int .u8) w A0 l0.length l0) (hc0 : l0.length ≤ c0) (h : laws_FnRecCut.f k l0 = some r) (hT_ : Aside0 (r = true)) :
  Calls Tryd.prog 9 #[.slice A0 l0.length c0] w fun e w' => e = .returned (.bool r) ∧ Below w.heap.size w w' := by
 have hu37 := Tryd.underlying37
 have HR0 := az hr0
 have HC0 := az hc0
 clear hr0 hc0
 have HB := az (Below.refl w.heap.size w)
 have HD := az hdoor
 clear hdoor
 have H : (if (l0.length : Int) > 1048576 then (some true) else ((spec_DrawRecText.f k l0).bind fun bt275 => ((impl_RecText.f k bt275.1 bt275.2.1 bt275.2.2.1 bt275.2.2.2.1 bt275.2.2.2.2.1 bt275.2.2.2.2.2.1 bt275.2.2.2.2.2.2.1 bt275.2.2.2.2.2.2.2).bind fun t284 => ((spec_RecText.f k bt275.1 bt275.2.1 bt275.2.2.1 bt275.2.2.2.1 bt275.2.2.2.2.1 bt275.2.2.2.2.2.1 bt275.2.2.2.2.2.2.1 bt275.2.2.2.2.2.2.2).bind fun t285 => (if t284.toList = t285.toList then (laws_FnRecCut.j0 k t284 (t284.toList == ([] : List UInt8)) bt275.1 bt275.2.1 bt275.2.2.1 bt275.2.2.2.1 bt275.2.2.2.2.1 bt275.2.2.2.2.2.1 bt275.2.2.2.2.2.2.1 bt275.2.2.2.2.2.2.2) else (laws_FnRecCut.j0 k t284 true bt275.1 bt275.2.1 bt275.2.2.1 bt275.2.2.2.1 bt275.2.2.2.2.1 bt275.2.2.2.2.2.1 bt275.2.2.2.2.2.2.1 bt275.2.2.2.2.2.2.2)))))) = some r := h
 clear h
 by_cases c2 : (l0.length : Int) > 1048576
 ·rw [if_pos c2] at H
  have c2b0 : decide (1048576 < (l0.length : Int)) = true := decide_eq_true c2
  have c2b1 : decide (1048576 < l0.length) = true := decide_eq_true (by omega)
  clear c2
  obtain rfl := Option.some.inj H
  go_enter Tryd.func9, Tryd.ntmps9
  go_wp2
  go_ret
  exact ⟨by first | rfl | (simp [errW_none, errW_some] <;> rfl) | (simp [*, errW_none, errW_some] <;> rfl), by repeat (first | (with_reducible first | exact HB.out | apply wa | apply wn | apply wd) | exact HB.out)⟩
 ·rw [if_neg c2] at H
  have c2b0 : decide (1048576 < (l0.length : Int)) = false := decide_eq_false c2
  have c2b1 : decide (1048576 < l0.length) = false := decide_eq_false (by omega)
  clear c2
  replace H := Option.bind_eq_some_iff.mp H
  obtain ⟨⟨t275, t276, t277, t278, t279, t280, t281, t282⟩, A30, H⟩ := H
  replace H : ((impl_RecText.f k t275 t276 t277 t278 t279 t280 t281 t282).bind fun t284 => ((spec_RecText.f k t275 t276 t277 t278 t279 t280 t281 t282).bind fun t285 => (if t284.toList = t285.toList then (laws_FnRecCut.j0 k t284 (t284.toList == ([] : List UInt8)) t275 t276 t277 t278 t279 t280 t281 t282) else (laws_FnRecCut.j0 k t284 true t275 t276 t277 t278 t279 t280 t281 t282)))) = some r := H
  have A3 := az A30
  clear A30
  replace H := Option.bind_eq_some_iff.mp H
  obtain ⟨t284, A40, H⟩ := H
  replace H : ((spec_RecText.f k t275 t276 t277 t278 t279 t280 t281 t282).bind fun t285 => (if t284.toList = t285.toList then (laws_FnRecCut.j0 k t284 (t284.toList == ([] : List UInt8)) t275 t276 t277 t278 t279 t280 t281 t282) else (laws_FnRecCut.j0 k t284 true t275 t276 t277 t278 t279 t280 t281 t282))) = some r := H
  have A4 := az A40
  clear A40
  have HC5 := az H
  clear H
  go_enter Tryd.func9, Tryd.ntmps9
  go_upto_region 5 with (first | ((with_reducible refine gate_callee (f := 23) rfl ?_); refine goesL_ (some 15) rfl rfl Tryd.func23 (by kernel_rfl) rfl #[.slice A0 l0.length c0] rfl (by (try simp only [List.map_toArray, List.map_cons, List.map_nil]); first | done | rfl | (simp only [List.length_drop, List.length_take]; rfl)) ?_; (with_reducible refine (spec_DrawRecText.calls k _ _ l0 t275 t276 t277 t278 t279 t280 t281 t282 _ ?side1 ?side2 A3.out).mono ?_); (case side1 => repeat (first | exact HR0.out | (with_reducible refine Kd.C_alloc ?_ _) | (with_reducible refine Kd.C_drewN ?_ _) | (with_reducible refine Kd.C_drew ?_))); (case side2 => exact HC0.out); rintro e w6 ⟨rfl, hb⟩; refine ⟨_, rfl, ?_⟩; replace HB := az (below_step (by repeat (first | (with_reducible first | exact HB.out | apply wa | apply wn | apply wd) | exact HB.out)) hb); (try clear hb); (try clear hb2); (try clear hk); (try clear hi)) | ((with_reducible refine gate_dst (N := 3) rfl ?_); refine box_event ?hg (N := 3) ?hd (cs := #[.int .i64 0, .int .i64 0, .int .i64 0, .int .i64 0, .int .i64 0, .int .i64 0, .int .i64 0, .int .i64 0]) (t := 37) ?hr ?_; (case hd => rfl); (case hg => rfl); (case hr => first | (go_simp; done) | (go_simp; rfl)); intro gb283 hg w7 hbox hb; have BK283 := az (hbox); have GW283 := az ((by rw [hg]; exact (below_size (by repeat (first | (with_reducible first | exact HB.out | apply wa | apply wn | apply wd) | exact HB.out))) : w.heap.size ≤ gb283)); have GE283 := GW283; replace HB := az (below_step (by repeat (first | (with_reducible first | exact HB.out | apply wa | apply wn | apply wd) | exact HB.out)) hb); clear hb hbox hg; obtain ⟨hcz8_0, hcz8_1, hcz8_2, hcz8_3, hcz8_4, hcz8_5, hcz8_6, hcz8_7⟩ := cz8 BK283; obtain ⟨hfz8_0, hfz8_1, hfz8_2, hfz8_3, hfz8_4, hfz8_5, hfz8_6⟩ := fz7 BK283; have hfz8_7 := blk_frozen BK283.out 7) | ((with_reducible refine gate_callee (f := 22) rfl ?_); refine goesL_ (some 17) rfl rfl Tryd.func22 (by kernel_rfl) rfl #[.agg #[.int .i64 t275, .int .i64 t276, .int .i64 t277, .int .i64 t278, .int .i64 t279, .int .i64 t280, .int .i64 t281, .int .i64 t282]] rfl (by (try simp only [List.map_toArray, List.map_cons, List.map_nil]); first | done | rfl | (simp only [List.length_drop, List.length_take]; rfl)) ?_; (with_reducible refine (impl_RecText.calls k t275 t276 t277 t278 t279 t280 t281 t282 t284 _ (HD.out.on (by repeat (first | (with_reducible first | exact HB.out | apply wa | apply wn | apply wd | refine ws ‹_› ?_) | exact HB.out))).tab A4.out).mono ?_); rintro e w9 ⟨rfl, hb⟩; refine ⟨_, rfl, ?_⟩; replace BK283 := az (blk_below (g := gb283) (o := .cells #[.int .i64 t275, .int .i64 t276, .int .i64 t277, .int .i64 t278, .int .i64 t279, .int .i64 t280, .int .i64 t281, .int .i64 t282] 37 (0, 0)) (by (with_reducible repeat (first | apply bn | apply bd | apply ba)); exact p8 BK283) hb); replace HB := az (below_step (by repeat (first | (with_reducible first | exact HB.out | apply wa | apply wn | apply wd | refine ws ‹_› ?_) | exact HB.out)) hb); (try clear hb); (try clear hb2); (try clear hk); (try clear hi)))
  (try simp only [Act.put, List.setIfInBounds_toArray, List.set_cons_zero, List.set_cons_succ])
  go_cut [25] (fun v25 wc => ∃ (kq : Nat) (x25_4 : Bool), v25 = .bool x25_4 ∧ Aside0 (laws_FnRecCut.j0 kq t284 x25_4 t275 t276 t277 t278 t279 t280 t281 t282 = some r) ∧ Aside0 (kq ≤ k) ∧ Aside0 (wc.heap[gb283]? = some (.cells #[.int .i64 t275, .int .i64 t276, .int .i64 t277, .int .i64 t278, .int .i64 t279, .int .i64 t280, .int .i64 t281, .int .i64 t282] 37 (0, 0))) ∧ Aside0 (Below w.heap.size w wc))
  case first =>
   have H := HC5.out
   clear HC5
   replace H := Option.bind_eq_some_iff.mp H
   obtain ⟨t285, A100, H⟩ := H
   replace H : (if t284.toList = t285.toList then (laws_FnRecCut.j0 k t284 (t284.toList == ([] : List UInt8)) t275 t276 t277 t278 t279 t280 t281 t282) else (laws_FnRecCut.j0 k t284 true t275 t276 t277 t278 t279 t280 t281 t282)) = some r := H
   have A10 := az A100
   clear A100
   by_cases c11 : t284.toList = t285.toList
   ·rw [if_pos c11] at H
    have c11b0 : (t284.toList == t285.toList) = true := beq_iff_eq.mpr c11
    have c11b1 : (t284.toList != t285.toList) = false := bne_eq_false_iff_eq.mpr c11
    clear c11
    (first | rw [c11b0] | (simp only [i64_w, i32_w]; rw [c11b0]) | skip)
    have H' := az H
    clear H
    obtain ⟨hcz12_0, hcz12_1, hcz12_2, hcz12_3, hcz12_4, hcz12_5, hcz12_6, hcz12_7⟩ := cz8 BK283
    obtain ⟨hfz12_0, hfz12_1, hfz12_2, hfz12_3, hfz12_4, hfz12_5, hfz12_6, hfz12_7⟩ := fz8 BK283
    go_wp2_with (first | ((with_reducible refine gate_callee (f := 20) rfl ?_); refine goesL_ (some 20) rfl rfl Tryd.func20 (by kernel_rfl) rfl #[.agg #[.int .i64 t275, .int .i64 t276, .int .i64 t277, .int .i64 t278, .int .i64 t279, .int .i64 t280, .int .i64 t281, .int .i64 t282]] rfl (by (try simp only [List.map_toArray, List.map_cons, List.map_nil]); first | done | rfl | (simp only [List.length_drop, List.length_take]; rfl)) ?_; (with_reducible refine (spec_RecText.calls k t275 t276 t277 t278 t279 t280 t281 t282 t285 _ A10.out).mono ?_); rintro e w13 ⟨rfl, hb⟩; refine ⟨_, rfl, ?_⟩; replace BK283 := bb BK283 (fun h => by (with_reducible repeat (first | apply bn | apply bd | apply ba)); exact h) hb; replace HB := az (below_step (by repeat (first | (with_reducible first | exact HB.out | apply wa | apply wn | apply wd | refine ws ‹_› ?_) | exact HB.out)) hb); (try clear hb); (try clear hb2); (try clear hk); (try clear hi)))
    go_meet
    case rel => exact ⟨_, ((t284.toList == ([] : List UInt8))), (by first | rfl | (simp; done) | (simp [*]; done)), H', ⟨by first | omega | exact Nat.le_refl _⟩, ⟨by (with_reducible repeat (first | apply bn | apply bd | apply ba)); exact BK283.out⟩, ⟨by repeat (first | (with_reducible first | exact HB.out | apply wa | apply wn | apply wd | refine ws ‹_› ?_) | exact HB.out)⟩⟩
   ·rw [if_neg c11] at H
    have c11b0 : (t284.toList == t285.toList) = false := beq_eq_false_iff_ne.mpr c11
    have c11b1 : (t284.toList != t285.toList) = true := bne_iff_ne.mpr c11
    (first | rw [c11b0] | (simp only [i64_w, i32_w]; rw [c11b0]) | skip)
    have H' := az H
    clear H
    obtain ⟨hcz14_0, hcz14_1, hcz14_2, hcz14_3, hcz14_4, hcz14_5, hcz14_6, hcz14_7⟩ := cz8 BK283
    obtain ⟨hfz14_0, hfz14_1, hfz14_2, hfz14_3, hfz14_4, hfz14_5, hfz14_6, hfz14_7⟩ := fz8 BK283
    go_wp2_with (first | ((with_reducible refine gate_callee (f := 20) rfl ?_); refine goesL_ (some 20) rfl rfl Tryd.func20 (by kernel_rfl) rfl #[.agg #[.int .i64 t275, .int .i64 t276, .int .i64 t277, .int .i64 t278, .int .i64 t279, .int .i64 t280, .int .i64 t281, .int .i64 t282]] rfl (by (try simp only [List.map_toArray, List.map_cons, List.map_nil]); first | done | rfl | (simp only [List.length_drop, List.length_take]; rfl)) ?_; (with_reducible refine (spec_RecText.calls k t275 t276 t277 t278 t279 t280 t281 t282 t285 _ A10.out).mono ?_); rintro e w15 ⟨rfl, hb⟩; refine ⟨_, rfl, ?_⟩; replace BK283 := bb BK283 (fun h => by (with_reducible repeat (first | apply bn | apply bd | apply ba)); exact h) hb; replace HB := az (below_step (by repeat (first | (with_reducible first | exact HB.out | apply wa | apply wn | apply wd | refine ws ‹_› ?_) | exact HB.out)) hb); (try clear hb); (try clear hb2); (try clear hk); (try clear hi)))
    go_meet
    case rel => exact ⟨_, (true), (by first | rfl | (simp; done) | (simp [*]; done)), H', ⟨by first | omega | exact Nat.le_refl _⟩, ⟨by (with_reducible repeat (first | apply bn | apply bd | apply ba)); exact BK283.out⟩, ⟨by repeat (first | (with_reducible first | exact HB.out | apply wa | apply wn | apply wd | refine ws ‹_› ?_) | exact HB.out)⟩⟩
  case rest =>
   clear HC5;(try clear c1);(try clear c2);(try clear c2b0);(try clear c2b1);(try clear p2);(try clear c9);(try clear c11);(try clear c11b0);(try clear c11b1);(try clear hcz12_0);(try clear hcz12_1);(try clear hcz12_2);(try clear hcz12_3);(try clear hcz12_4);(try clear hcz12_5);(try clear hcz12_6);(try clear hcz12_7);(try clear hcz14_0);(try clear hcz14_1);(try clear hcz14_2);(try clear hcz14_3);(try clear hcz14_4);(try clear hcz14_5);(try clear hcz14_6);(try clear hcz14_7);(try clear hcz8_0);(try clear hcz8_1);(try clear hcz8_2);(try clear hcz8_3);(try clear hcz8_4);(try clear hcz8_5);(try clear hcz8_6);(try clear hcz8_7);(try clear hfz12_0);(try clear hfz12_1);(try clear hfz12_2);(try clear hfz12_3);(try clear hfz12_4);(try clear hfz12_5);(try clear hfz12_6);(try clear hfz12_7);(try clear hfz14_0);(try clear hfz14_1);(try clear hfz14_2);(try clear hfz14_3);(try clear hfz14_4);(try clear hfz14_5);(try clear hfz14_6);(try clear hfz14_7);(try clear hfz8_0);(try clear hfz8_1);(try clear hfz8_2);(try clear hfz8_3);(try clear hfz8_4);(try clear hfz8_5);(try clear hfz8_6);(try clear hfz8_7)
   obtain ⟨kq, x25_4, rfl, HA, HJ4, BK283, HB⟩ := hcut
   cases kq with
   | zero => exact absurd HA.out (by simp [laws_FnRecCut.j0])
   | succ kj4 =>
    have H := HA.out
    clear HA
    simp only [laws_FnRecCut.j0] at H
    by_cases c16 : x25_4 = true
    ·subst c16
     have H1 : ((spec_RecText.f kj4 t275 t276 t277 t278 t279 t280 t281 t282).bind fun t286 => (some (t284.toList == t286.toList))) = some r := by rw [if_pos rfl] at H; exact H
     clear H
     have H := H1
     clear H1
     replace H := Option.bind_eq_some_iff.mp H
     obtain ⟨t286, A170, H⟩ := H
     replace H : (some (t284.toList == t286.toList)) = some r := H
     have A17 := az A170
     clear A170
     obtain rfl := Option.some.inj H
     obtain ⟨hcz18_0, hcz18_1, hcz18_2, hcz18_3, hcz18_4, hcz18_5, hcz18_6, hcz18_7⟩ := cz8 BK283
     obtain ⟨hfz18_0, hfz18_1, hfz18_2, hfz18_3, hfz18_4, hfz18_5, hfz18_6, hfz18_7⟩ := fz8 BK283
     go_wp2_with (first | ((with_reducible refine gate_callee (f := 20) rfl ?_); refine goesL_ (some 28) rfl rfl Tryd.func20 (by kernel_rfl) rfl #[.agg #[.int .i64 t275, .int .i64 t276, .int .i64 t277, .int .i64 t278, .int .i64 t279, .int .i64 t280, .int .i64 t281, .int .i64 t282]] rfl (by (try simp only [List.map_toArray, List.map_cons, List.map_nil]); first | done | rfl | (simp only [List.length_drop, List.length_take]; rfl)) ?_; (with_reducible refine (spec_RecText.calls kj4 t275 t276 t277 t278 t279 t280 t281 t282 t286 _ A17.out).mono ?_); rintro e w19 ⟨rfl, hb⟩; refine ⟨_, rfl, ?_⟩; replace BK283 := bb BK283 (fun h => by (with_reducible repeat (first | apply bn | apply bd | apply ba)); exact h) hb; replace HB := az (below_step (by repeat (first | (with_reducible first | exact HB.out | apply wa | apply wn | apply wd | refine ws ‹_› ?_) | exact HB.out)) hb); (try clear hb); (try clear hb2); (try clear hk); (try clear hi)))
     go_ret
     exact ⟨by first | rfl | (simp [errW_none, errW_some] <;> rfl) | (simp [*, errW_none, errW_some] <;> rfl), by repeat (first | (with_reducible first | exact HB.out | apply wa | apply wn | apply wd | refine ws ‹_› ?_) | exact HB.out)⟩
    ·replace c16 := Bool.eq_false_iff.mpr c16
     subst c16
     have H1 : (if 0 ≤ (wrap64 ((t284.size : Int) - 1)) then (if (wrap64 ((t284.size : Int) - 1)) ≤ (t284.size : Int) then ((impl_RecRead.f kj4 (t284.extract 0 ((wrap64 ((t284.size : Int) - 1)) : Int).toNat)).bind fun bt287 => (if t284.size + 1 ≤ 9223372036854775807 then ((impl_RecRead.f kj4 (t284 ++ (⟨#[32]⟩ : ByteArray))).bind fun bt297 => (if t284.size + 2 ≤ 9223372036854775807 then ((impl_RecRead.f kj4 (t284 ++ (⟨#[32, 48]⟩ : ByteArray))).bind fun bt307 => (if bt287.2.2.2.2.2.2.2.2 = true then (if (!(bt287.1 == t275) || (!(bt287.2.1 == t276) || (!(bt287.2.2.1 == t277) || (!(bt287.2.2.2.1 == t278) || (!(bt287.2.2.2.2.1 == t279) || (!(bt287.2.2.2.2.2.1 == t280) || (!(bt287.2.2.2.2.2.2.1 == t281) || (!(bt287.2.2.2.2.2.2.2.1 == t282))))))))) = true then (if bt297.2.2.2.2.2.2.2.2 = true then (some false) else (some (!bt307.2.2.2.2.2.2.2.2))) else (some false)) else (if bt297.2.2.2.2.2.2.2.2 = true then (some false) else (some (!bt307.2.2.2.2.2.2.2.2))))) else (none))) else (none))) else (none)) else (none)) = some r := by rw [if_neg (show ¬ (false = true) by decide)] at H; exact H
     clear H
     have H := H1
     clear H1
     obtain ⟨ji20, hji20⟩ : ∃ j_ : Int, (wrap64 ((t284.size : Int) - 1)) = j_ := ⟨_, rfl⟩
     replace H : (if 0 ≤ (ji20) then (if (ji20) ≤ (t284.size : Int) then ((impl_RecRead.f kj4 (t284.extract 0 ((ji20) : Int).toNat)).bind fun bt287 => (if t284.size + 1 ≤ 9223372036854775807 then ((impl_RecRead.f kj4 (t284 ++ (⟨#[32]⟩ : ByteArray))).bind fun bt297 => (if t284.size + 2 ≤ 9223372036854775807 then ((impl_RecRead.f kj4 (t284 ++ (⟨#[32, 48]⟩ : ByteArray))).bind fun bt307 => (if bt287.2.2.2.2.2.2.2.2 = true then (if (!(bt287.1 == t275) || (!(bt287.2.1 == t276) || (!(bt287.2.2.1 == t277) || (!(bt287.2.2.2.1 == t278) || (!(bt287.2.2.2.2.1 == t279) || (!(bt287.2.2.2.2.2.1 == t280) || (!(bt287.2.2.2.2.2.2.1 == t281) || (!(bt287.2.2.2.2.2.2.2.1 == t282))))))))) = true then (if bt297.2.2.2.2.2.2.2.2 = true then (some false) else (some (!bt307.2.2.2.2.2.2.2.2))) else (some false)) else (if bt297.2.2.2.2.2.2.2.2 = true then (some false) else (some (!bt307.2.2.2.2.2.2.2.2))))) else (none))) else (none))) else (none)) else (none)) = some r := by first | (rw [hji20] at H; exact H) | (simp only [hji20] at H ⊢; exact H)
     have hji20w : (IntKind.i64.wrap ((t284.size : Int) - 1)) = ji20 := (i64_w _).trans hji20
     by_cases c21 : 0 ≤ (ji20)
     ·rw [if_pos c21] at H
      have c21b0 := eq_true c21
      have c21b1 : decide (0 ≤ (ji20)) = true := decide_eq_true c21
      clear c21
      by_cases c22 : (ji20) ≤ (t284.size : Int)
      ·rw [if_pos c22] at H
       have c22b0 := eq_true c22
       have c22b1 : decide ((ji20) ≤ (t284.size : Int)) = true := decide_eq_true c22
       clear c22
       replace H := Option.bind_eq_some_iff.mp H
       obtain ⟨⟨t287, t288, t289, t290, t291, t292, t293, t294, t295⟩, A230, H⟩ := H
       replace H : (if t284.size + 1 ≤ 9223372036854775807 then ((impl_RecRead.f kj4 (t284 ++ (⟨#[32]⟩ : ByteArray))).bind fun bt297 => (if t284.size + 2 ≤ 9223372036854775807 then ((impl_RecRead.f kj4 (t284 ++ (⟨#[32, 48]⟩ : ByteArray))).bind fun bt307 => (if t295 = true then (if (!(t287 == t275) || (!(t288 == t276) || (!(t289 == t277) || (!(t290 == t278) || (!(t291 == t279) || (!(t292 == t280) || (!(t293 == t281) || (!(t294 == t282))))))))) = true then (if bt297.2.2.2.2.2.2.2.2 = true then (some false) else (some (!bt307.2.2.2.2.2.2.2.2))) else (some false)) else (if bt297.2.2.2.2.2.2.2.2 = true then (some false) else (some (!bt307.2.2.2.2.2.2.2.2))))) else (none))) else (none)) = some r := H
       have A23 := az A230
       clear A230
       by_cases c24 : t284.size + 1 ≤ 9223372036854775807
       ·rw [if_pos c24] at H
        have c24b0 := eq_true c24
        have c24b1 : decide (t284.size + 1 ≤ 9223372036854775807) = true := decide_eq_true c24
        try have c24b2 : (9223372036854775807 < t284.size + 1) = False := eq_false (Nat.not_lt.2 c24)
        replace H := Option.bind_eq_some_iff.mp H
        obtain ⟨⟨t297, t298, t299, t300, t301, t302, t303, t304, t305⟩, A250, H⟩ := H
        replace H : (if t284.size + 2 ≤ 9223372036854775807 then ((impl_RecRead.f kj4 (t284 ++ (⟨#[32, 48]⟩ : ByteArray))).bind fun bt307 => (if t295 = true then (if (!(t287 == t275) || (!(t288 == t276) || (!(t289 == t277) || (!(t290 == t278) || (!(t291 == t279) || (!(t292 == t280) || (!(t293 == t281) || (!(t294 == t282))))))))) = true then (if t305 = true then (some false) else (some (!bt307.2.2.2.2.2.2.2.2))) else (some false)) else (if t305 = true then (some false) else (some (!bt307.2.2.2.2.2.2.2.2))))) else (none)) = some r := H
        have A25 := az A250
        clear A250
        by_cases c26 : t284.size + 2 ≤ 9223372036854775807
        ·rw [if_pos c26] at H
         have c26b0 := eq_true c26
         have c26b1 : decide (t284.size + 2 ≤ 9223372036854775807) = true := decide_eq_true c26
         try have c26b2 : (9223372036854775807 < t284.size + 2) = False := eq_false (Nat.not_lt.2 c26)
         replace H := Option.bind_eq_some_iff.mp H
         obtain ⟨⟨t307, t308, t309, t310, t311, t312, t313, t314, t315⟩, A270, H⟩ := H
         replace H : (if t295 = true then (if (!(t287 == t275) || (!(t288 == t276) || (!(t289 == t277) || (!(t290 == t278) || (!(t291 == t279) || (!(t292 == t280) || (!(t293 == t281) || (!(t294 == t282))))))))) = true then (if t305 = true then (some false) else (some (!t315))) else (some false)) else (if t305 = true then (some false) else (some (!t315)))) = some r := H
         have A27 := az A270
         clear A270
         by_cases c28 : t295 = true
         ·subst c28
          have H1 : (if (!(t287 == t275) || (!(t288 == t276) || (!(t289 == t277) || (!(t290 == t278) || (!(t291 == t279) || (!(t292 == t280) || (!(t293 == t281) || (!(t294 == t282))))))))) = true then (if t305 = true then (some false) else (some (!t315))) else (some false)) = some r := by rw [if_pos rfl] at H; exact H
          clear H
          have H := H1
          clear H1
          by_cases c29 : (!(t287 == t275) || (!(t288 == t276) || (!(t289 == t277) || (!(t290 == t278) || (!(t291 == t279) || (!(t292 == t280) || (!(t293 == t281) || (!(t294 == t282))))))))) = true
          ·rw [if_pos c29] at H
           have c29b0 : (!(t287 == t275) || (!(t288 == t276) || (!(t289 == t277) || (!(t290 == t278) || (!(t291 == t279) || (!(t292 == t280) || (!(t293 == t281) || (!(t294 == t282))))))))) = true := c29
           clear c29
           by_cases c30 : t305 = true
           ·subst c30
            have H1 : (some false) = some r := by rw [if_pos rfl] at H; exact H
            clear H
            have H := H1
            clear H1
            obtain rfl := Option.some.inj H
            exact absurd hT_.out (by simp)
           ·replace c30 := Bool.eq_false_iff.mpr c30
            subst c30
            have H1 : (some (!t315)) = some r := by rw [if_neg (show ¬ (false = true) by decide)] at H; exact H
            clear H
            have H := H1
            clear H1
            obtain rfl := Option.some.inj H
            go_wp2_with (first | ((with_reducible refine gate_callee (f := 25) rfl ?_); refine goesL_ (some 36) rfl rfl Tryd.func25 (by kernel_rfl) rfl #[.string (t284.extract 0 ((ji20) : Int).toNat)] rfl (by (try simp only [List.map_toArray, List.map_cons, List.map_nil]); first | done | (simp only [hji20]; rfl) | rfl | (simp only [List.length_drop, List.length_take]; rfl)) ?_; (with_reducible refine (impl_RecRead.calls kj4 (t284.extract 0 ((ji20) : Int).toNat) t287 t288 t289 t290 t291 t292 t293 t294 true _ (HD.out.on (by repeat (first | (with_reducible first | exact HB.out | apply wa | apply wn | apply wd | refine ws ‹_› ?_) | exact HB.out))) A23.out).mono ?_); rintro e w48 ⟨rfl, hb⟩; refine ⟨_, rfl, ?_⟩; replace BK283 := bb BK283 (fun h => by (with_reducible repeat (first | apply bn | apply bd | apply ba)); exact h) hb; replace HB := az (below_step (by repeat (first | (with_reducible first | exact HB.out | apply wa | apply wn | apply wd | refine ws ‹_› ?_) | exact HB.out)) hb); (try clear hb); (try clear hb2); (try clear hk); (try clear hi)) | ((with_reducible refine gate_dst (N := 5) rfl ?_); refine box_event ?hg (N := 5) ?hd (cs := #[.int .i64 0, .int .i64 0, .int .i64 0, .int .i64 0, .int .i64 0, .int .i64 0, .int .i64 0, .int .i64 0]) (t := 37) ?hr ?_; (case hd => rfl); (case hg => rfl); (case hr => first | (go_simp; done) | (go_simp; rfl)); intro gb296 hg w49 hbox hb; have BK296 := az (hbox); have GW296 := az ((by rw [hg]; exact (below_size (by repeat (first | (with_reducible first | exact HB.out | apply wa | apply wn | apply wd | refine ws ‹_› ?_) | exact HB.out))) : w.heap.size ≤ gb296)); have GE296 := GW296; replace HB := az (below_step (by repeat (first | (with_reducible first | exact HB.out | apply wa | apply wn | apply wd | refine ws ‹_› ?_) | exact HB.out)) hb); obtain ⟨NB283_296, NB296_283⟩ := nb BK283 hg (fun h => by (with_reducible repeat (first | apply bn | apply bd | apply ba)); exact h); replace BK283 := bb BK283 (fun h => by (with_reducible repeat (first | apply bn | apply bd | apply ba)); exact h) hb; clear hb hbox hg; have hnb50 := NB296_283.out; have hnc50 := NB283_296.out; obtain ⟨hcz51_0, hcz51_1, hcz51_2, hcz51_3, hcz51_4, hcz51_5, hcz51_6, hcz51_7⟩ := cz8 BK296; obtain ⟨hfz51_0, hfz51_1, hfz51_2, hfz51_3, hfz51_4, hfz51_5, hfz51_6⟩ := fz7 BK296; have hfz51_7 := blk_frozen BK296.out 7) | ((with_reducible refine gate_callee (f := 25) rfl ?_); refine goesL_ (some 42) rfl rfl Tryd.func25 (by kernel_rfl) rfl #[.string (t284 ++ (⟨#[32]⟩ : ByteArray))] rfl (by (try simp only [List.map_toArray, List.map_cons, List.map_nil]); first | done | rfl | (simp only [List.length_drop, List.length_take]; rfl)) ?_; (with_reducible refine (impl_RecRead.calls kj4 (t284 ++ (⟨#[32]⟩ : ByteArray)) t297 t298 t299 t300 t301 t302 t303 t304 false _ (HD.out.on (by repeat (first | (with_reducible first | exact HB.out | apply wa | apply wn | apply wd | refine ws ‹_› ?_) | exact HB.out))) A25.out).mono ?_); rintro e w52 ⟨rfl, hb⟩; refine ⟨_, rfl, ?_⟩; replace BK283 := az (blk_below (g := gb283) (o := .cells #[.int .i64 t275, .int .i64 t276, .int .i64 t277, .int .i64 t278, .int .i64 t279, .int .i64 t280, .int .i64 t281, .int .i64 t282] 37 (0, 0)) (by (repeat (first | (with_reducible first | apply bn | apply bd | apply ba) | apply bf NB283_296)); exact BK283.out) hb); replace BK296 := az (blk_below (g := gb296) (o := .cells #[.int .i64 t287, .int .i64 t288, .int .i64 t289, .int .i64 t290, .int .i64 t291, .int .i64 t292, .int .i64 t293, .int .i64 t294] 37 (0, 0)) (by (with_reducible repeat (first | apply bn | apply bd | apply ba)); exact p8 BK296) hb); replace HB := az (below_step (by repeat (first | (with_reducible first | exact HB.out | apply wa | apply wn | apply wd | refine ws ‹_› ?_) | exact HB.out)) hb); (try clear hb); (try clear hb2); (try clear hk); (try clear hi)) | ((with_reducible refine gate_dst (N := 7) rfl ?_); refine box_event ?hg (N := 7) ?hd (cs := #[.int .i64 0, .int .i64 0, .int .i64 0, .int .i64 0, .int .i64 0, .int .i64 0, .int .i64 0, .int .i64 0]) (t := 37) ?hr ?_; (case hd => rfl); (case hg => rfl); (case hr => first | (go_simp; done) | (go_simp; rfl)); intro gb306 hg w53 hbox hb; have BK306 := az (hbox); have GW306 := az ((by rw [hg]; exact (below_size (by repeat (first | (with_reducible first | exact HB.out | apply wa | apply wn | apply wd | refine ws ‹_› ?_) | exact HB.out))) : w.heap.size ≤ gb306)); have GE306 := GW306; replace HB := az (below_step (by repeat (first | (with_reducible first | exact HB.out | apply wa | apply wn | apply wd | refine ws ‹_› ?_) | exact HB.out)) hb); obtain ⟨NB283_306, NB306_283⟩ := nb BK283 hg (fun h => by (with_reducible repeat (first | apply bn | apply bd | apply ba)); exact h); replace BK283 := bb BK283 (fun h => by (with_reducible repeat (first | apply bn | apply bd | apply ba)); exact h) hb; obtain ⟨NB296_306, NB306_296⟩ := nb BK296 hg (fun h => by (with_reducible repeat (first | apply bn | apply bd | apply ba)); exact h); replace BK296 := bb BK296 (fun h => by (with_reducible repeat (first | apply bn | apply bd | apply ba)); exact h) hb; clear hb hbox hg; have hnb54 := NB306_283.out; have hnc54 := NB283_306.out; have hnb55 := NB306_296.out; have hnc55 := NB296_306.out; obtain ⟨hcz56_0, hcz56_1, hcz56_2, hcz56_3, hcz56_4, hcz56_5, hcz56_6, hcz56_7⟩ := cz8 BK306; obtain ⟨hfz56_0, hfz56_1, hfz56_2, hfz56_3, hfz56_4, hfz56_5, hfz56_6⟩ := fz7 BK306; have hfz56_7 := blk_frozen BK306.out 7) | ((with_reducible refine gate_callee (f := 25) rfl ?_); refine goesL_ (some 48) rfl rfl Tryd.func25 (by kernel_rfl) rfl #[.string (t284 ++ (⟨#[32, 48]⟩ : ByteArray))] rfl (by (try simp only [List.map_toArray, List.map_cons, List.map_nil]); first | done | rfl | (simp only [List.length_drop, List.length_take]; rfl)) ?_; (with_reducible refine (impl_RecRead.calls kj4 (t284 ++ (⟨#[32, 48]⟩ : ByteArray)) t307 t308 t309 t310 t311 t312 t313 t314 t315 _ (HD.out.on (by repeat (first | (with_reducible first | exact HB.out | apply wa | apply wn | apply wd | refine ws ‹_› ?_) | exact HB.out))) A27.out).mono ?_); rintro e w57 ⟨rfl, hb⟩; refine ⟨_, rfl, ?_⟩; replace BK283 := az (blk_below (g := gb283) (o := .cells #[.int .i64 t275, .int .i64 t276, .int .i64 t277, .int .i64 t278, .int .i64 t279, .int .i64 t280, .int .i64 t281, .int .i64 t282] 37 (0, 0)) (by (repeat (first | (with_reducible first | apply bn | apply bd | apply ba) | apply bf NB283_306)); exact BK283.out) hb); replace BK296 := az (blk_below (g := gb296) (o := .cells #[.int .i64 t287, .int .i64 t288, .int .i64 t289, .int .i64 t290, .int .i64 t291, .int .i64 t292, .int .i64 t293, .int .i64 t294] 37 (0, 0)) (by (repeat (first | (with_reducible first | apply bn | apply bd | apply ba) | apply bf NB296_306)); exact BK296.out) hb); replace BK306 := az (blk_below (g := gb306) (o := .cells #[.int .i64 t297, .int .i64 t298, .int .i64 t299, .int .i64 t300, .int .i64 t301, .int .i64 t302, .int .i64 t303, .int .i64 t304] 37 (0, 0)) (by (with_reducible repeat (first | apply bn | apply bd | apply ba)); exact p8 BK306) hb); replace HB := az (below_step (by repeat (first | (with_reducible first | exact HB.out | apply wa | apply wn | apply wd | refine ws ‹_› ?_) | exact HB.out)) hb); (try clear hb); (try clear hb2); (try clear hk); (try clear hi)) | ((with_reducible refine gate_dst (N := 9) rfl ?_); refine box_event ?hg (N := 9) ?hd (cs := #[.int .i64 0, .int .i64 0, .int .i64 0, .int .i64 0, .int .i64 0, .int .i64 0, .int .i64 0, .int .i64 0]) (t := 37) ?hr ?_; (case hd => rfl); (case hg => rfl); (case hr => first | (go_simp; done) | (go_simp; rfl)); intro gb316 hg w58 hbox hb; have BK316 := az (hbox); have GW316 := az ((by rw [hg]; exact (below_size (by repeat (first | (with_reducible first | exact HB.out | apply wa | apply wn | apply wd | refine ws ‹_› ?_) | exact HB.out))) : w.heap.size ≤ gb316)); have GE316 := GW316; replace HB := az (below_step (by repeat (first | (with_reducible first | exact HB.out | apply wa | apply wn | apply wd | refine ws ‹_› ?_) | exact HB.out)) hb); obtain ⟨NB283_316, NB316_283⟩ := nb BK283 hg (fun h => by (with_reducible repeat (first | apply bn | apply bd | apply ba)); exact h); replace BK283 := bb BK283 (fun h => by (with_reducible repeat (first | apply bn | apply bd | apply ba)); exact h) hb; obtain ⟨NB296_316, NB316_296⟩ := nb BK296 hg (fun h => by (with_reducible repeat (first | apply bn | apply bd | apply ba)); exact h); replace BK296 := bb BK296 (fun h => by (with_reducible repeat (first | apply bn | apply bd | apply ba)); exact h) hb; obtain ⟨NB306_316, NB316_306⟩ := nb BK306 hg (fun h => by (with_reducible repeat (first | apply bn | apply bd | apply ba)); exact h); replace BK306 := bb BK306 (fun h => by (with_reducible repeat (first | apply bn | apply bd | apply ba)); exact h) hb; clear hb hbox hg; have hnb59 := NB316_283.out; have hnc59 := NB283_316.out; have hnb60 := NB316_296.out; have hnc60 := NB296_316.out; have hnb61 := NB316_306.out; have hnc61 := NB306_316.out; obtain ⟨hcz62_0, hcz62_1, hcz62_2, hcz62_3, hcz62_4, hcz62_5, hcz62_6, hcz62_7⟩ := cz8 BK316; obtain ⟨hfz62_0, hfz62_1, hfz62_2, hfz62_3, hfz62_4, hfz62_5, hfz62_6, hfz62_7⟩ := fz8 BK316; obtain ⟨hcz63_0, hcz63_1, hcz63_2, hcz63_3, hcz63_4, hcz63_5, hcz63_6, hcz63_7⟩ := cz8 BK296; obtain ⟨hfz63_0, hfz63_1, hfz63_2, hfz63_3, hfz63_4, hfz63_5, hfz63_6, hfz63_7⟩ := fz8 BK296; obtain ⟨hcz64_0, hcz64_1, hcz64_2, hcz64_3, hcz64_4, hcz64_5, hcz64_6, hcz64_7⟩ := cz8 BK283; obtain ⟨hfz64_0, hfz64_1, hfz64_2, hfz64_3, hfz64_4, hfz64_5, hfz64_6⟩ := fz7 BK283; have hfz64_7 := blk_frozen BK283.out 7))
            go_ret
            exact ⟨by first | rfl | (simp [errW_none, errW_some] <;> rfl) | (simp only [← hji20]; first | rfl | (simp [errW_none, errW_some] <;> rfl)) | (simp [*, errW_none, errW_some] <;> rfl), by repeat (first | (with_reducible first | exact HB.out | apply wa | apply wn | apply wd | refine ws ‹_› ?_) | exact HB.out)⟩
          ·rw [if_neg c29] at H
           have c29b0 : (!(t287 == t275) || (!(t288 == t276) || (!(t289 == t277) || (!(t290 == t278) || (!(t291 == t279) || (!(t292 == t280) || (!(t293 == t281) || (!(t294 == t282))))))))) = false := by simpa using c29
           clear c29
           obtain rfl := Option.some.inj H
           exact absurd hT_.out (by simp)
         ·replace c28 := Bool.eq_false_iff.mpr c28
          subst c28
          have H1 : (if t305 = true then (some false) else (some (!t315))) = some r := by rw [if_neg (show ¬ (false = true) by decide)] at H; exact H
          clear H
          have H := H1
          clear H1
          by_cases c82 : t305 = true
          ·subst c82
           have H1 : (some false) = some r := by rw [if_pos rfl] at H; exact H
           clear H
           have H := H1
           clear H1
           obtain rfl := Option.some.inj H
           exact absurd hT_.out (by simp)
          ·replace c82 := Bool.eq_false_iff.mpr c82
           subst c82
           have H1 : (some (!t315)) = some r := by rw [if_neg (show ¬ (false = true) by decide)] at H; exact H
           clear H
           have H := H1
           clear H1
           obtain rfl := Option.some.inj H
           go_wp2_with (first | ((with_reducible refine gate_callee (f := 25) rfl ?_); refine goesL_ (some 36) rfl rfl Tryd.func25 (by kernel_rfl) rfl #[.string (t284.extract 0 ((ji20) : Int).toNat)] rfl (by (try simp only [List.map_toArray, List.map_cons, List.map_nil]); first | done | (simp only [hji20]; rfl) | rfl | (simp only [List.length_drop, List.length_take]; rfl)) ?_; (with_reducible refine (impl_RecRead.calls kj4 (t284.extract 0 ((ji20) : Int).toNat) t287 t288 t289 t290 t291 t292 t293 t294 false _ (HD.out.on (by repeat (first | (with_reducible first | exact HB.out | apply wa | apply wn | apply wd | refine ws ‹_› ?_) | exact HB.out))) A23.out).mono ?_); rintro e w98 ⟨rfl, hb⟩; refine ⟨_, rfl, ?_⟩; replace BK283 := bb BK283 (fun h => by (with_reducible repeat (first | apply bn | apply bd | apply ba)); exact h) hb; replace HB := az (below_step (by repeat (first | (with_reducible first | exact HB.out | apply wa | apply wn | apply wd | refine ws ‹_› ?_) | exact HB.out)) hb); (try clear hb); (try clear hb2); (try clear hk); (try clear hi)) | ((with_reducible refine gate_dst (N := 5) rfl ?_); refine box_event ?hg (N := 5) ?hd (cs := #[.int .i64 0, .int .i64 0, .int .i64 0, .int .i64 0, .int .i64 0, .int .i64 0, .int .i64 0, .int .i64 0]) (t := 37) ?hr ?_; (case hd => rfl); (case hg => rfl); (case hr => first | (go_simp; done) | (go_simp; rfl)); intro gb296 hg w99 hbox hb; have BK296 := az (hbox); have GW296 := az ((by rw [hg]; exact (below_size (by repeat (first | (with_reducible first | exact HB.out | apply wa | apply wn | apply wd | refine ws ‹_› ?_) | exact HB.out))) : w.heap.size ≤ gb296)); have GE296 := GW296; replace HB := az (below_step (by repeat (first | (with_reducible first | exact HB.out | apply wa | apply wn | apply wd | refine ws ‹_› ?_) | exact HB.out)) hb); obtain ⟨NB283_296, NB296_283⟩ := nb BK283 hg (fun h => by (with_reducible repeat (first | apply bn | apply bd | apply ba)); exact h); replace BK283 := bb BK283 (fun h => by (with_reducible repeat (first | apply bn | apply bd | apply ba)); exact h) hb; clear hb hbox hg; have hnb100 := NB296_283.out; have hnc100 := NB283_296.out; obtain ⟨hcz101_0, hcz101_1, hcz101_2, hcz101_3, hcz101_4, hcz101_5, hcz101_6, hcz101_7⟩ := cz8 BK296; obtain ⟨hfz101_0, hfz101_1, hfz101_2, hfz101_3, hfz101_4, hfz101_5, hfz101_6⟩ := fz7 BK296; have hfz101_7 := blk_frozen BK296.out 7) | ((with_reducible refine gate_callee (f := 25) rfl ?_); refine goesL_ (some 42) rfl rfl Tryd.func25 (by kernel_rfl) rfl #[.string (t284 ++ (⟨#[32]⟩ : ByteArray))] rfl (by (try simp only [List.map_toArray, List.map_cons, List.map_nil]); first | done | rfl | (simp only [List.length_drop, List.length_take]; rfl)) ?_; (with_reducible refine (impl_RecRead.calls kj4 (t284 ++ (⟨#[32]⟩ : ByteArray)) t297 t298 t299 t300 t301 t302 t303 t304 false _ (HD.out.on (by repeat (first | (with_reducible first | exact HB.out | apply wa | apply wn | apply wd | refine ws ‹_› ?_) | exact HB.out))) A25.out).mono ?_); rintro e w102 ⟨rfl, hb⟩; refine ⟨_, rfl, ?_⟩; replace BK283 := az (blk_below (g := gb283) (o := .cells #[.int .i64 t275, .int .i64 t276, .int .i64 t277, .int .i64 t278, .int .i64 t279, .int .i64 t280, .int .i64 t281, .int .i64 t282] 37 (0, 0)) (by (repeat (first | (with_reducible first | apply bn | apply bd | apply ba) | apply bf NB283_296)); exact BK283.out) hb); replace BK296 := az (blk_below (g := gb296) (o := .cells #[.int .i64 t287, .int .i64 t288, .int .i64 t289, .int .i64 t290, .int .i64 t291, .int .i64 t292, .int .i64 t293, .int .i64 t294] 37 (0, 0)) (by (with_reducible repeat (first | apply bn | apply bd | apply ba)); exact p8 BK296) hb); replace HB := az (below_step (by repeat (first | (with_reducible first | exact HB.out | apply wa | apply wn | apply wd | refine ws ‹_› ?_) | exact HB.out)) hb); (try clear hb); (try clear hb2); (try clear hk); (try clear hi)) | ((with_reducible refine gate_dst (N := 7) rfl ?_); refine box_event ?hg (N := 7) ?hd (cs := #[.int .i64 0, .int .i64 0, .int .i64 0, .int .i64 0, .int .i64 0, .int .i64 0, .int .i64 0, .int .i64 0]) (t := 37) ?hr ?_; (case hd => rfl); (case hg => rfl); (case hr => first | (go_simp; done) | (go_simp; rfl)); intro gb306 hg w103 hbox hb; have BK306 := az (hbox); have GW306 := az ((by rw [hg]; exact (below_size (by repeat (first | (with_reducible first | exact HB.out | apply wa | apply wn | apply wd | refine ws ‹_› ?_) | exact HB.out))) : w.heap.size ≤ gb306)); have GE306 := GW306; replace HB := az (below_step (by repeat (first | (with_reducible first | exact HB.out | apply wa | apply wn | apply wd | refine ws ‹_› ?_) | exact HB.out)) hb); obtain ⟨NB283_306, NB306_283⟩ := nb BK283 hg (fun h => by (with_reducible repeat (first | apply bn | apply bd | apply ba)); exact h); replace BK283 := bb BK283 (fun h => by (with_reducible repeat (first | apply bn | apply bd | apply ba)); exact h) hb; obtain ⟨NB296_306, NB306_296⟩ := nb BK296 hg (fun h => by (with_reducible repeat (first | apply bn | apply bd | apply ba)); exact h); replace BK296 := bb BK296 (fun h => by (with_reducible repeat (first | apply bn | apply bd | apply ba)); exact h) hb; clear hb hbox hg; have hnb104 := NB306_283.out; have hnc104 := NB283_306.out; have hnb105 := NB306_296.out; have hnc105 := NB296_306.out; obtain ⟨hcz106_0, hcz106_1, hcz106_2, hcz106_3, hcz106_4, hcz106_5, hcz106_6, hcz106_7⟩ := cz8 BK306; obtain ⟨hfz106_0, hfz106_1, hfz106_2, hfz106_3, hfz106_4, hfz106_5, hfz106_6⟩ := fz7 BK306; have hfz106_7 := blk_frozen BK306.out 7) | ((with_reducible refine gate_callee (f := 25) rfl ?_); refine goesL_ (some 48) rfl rfl Tryd.func25 (by kernel_rfl) rfl #[.string (t284 ++ (⟨#[32, 48]⟩ : ByteArray))] rfl (by (try simp only [List.map_toArray, List.map_cons, List.map_nil]); first | done | rfl | (simp only [List.length_drop, List.length_take]; rfl)) ?_; (with_reducible refine (impl_RecRead.calls kj4 (t284 ++ (⟨#[32, 48]⟩ : ByteArray)) t307 t308 t309 t310 t311 t312 t313 t314 t315 _ (HD.out.on (by repeat (first | (with_reducible first | exact HB.out | apply wa | apply wn | apply wd | refine ws ‹_› ?_) | exact HB.out))) A27.out).mono ?_); rintro e w107 ⟨rfl, hb⟩; refine ⟨_, rfl, ?_⟩; replace BK283 := az (blk_below (g := gb283) (o := .cells #[.int .i64 t275, .int .i64 t276, .int .i64 t277, .int .i64 t278, .int .i64 t279, .int .i64 t280, .int .i64 t281, .int .i64 t282] 37 (0, 0)) (by (repeat (first | (with_reducible first | apply bn | apply bd | apply ba) | apply bf NB283_306)); exact BK283.out) hb); replace BK296 := az (blk_below (g := gb296) (o := .cells #[.int .i64 t287, .int .i64 t288, .int .i64 t289, .int .i64 t290, .int .i64 t291, .int .i64 t292, .int .i64 t293, .int .i64 t294] 37 (0, 0)) (by (repeat (first | (with_reducible first | apply bn | apply bd | apply ba) | apply bf NB296_306)); exact BK296.out) hb); replace BK306 := az (blk_below (g := gb306) (o := .cells #[.int .i64 t297, .int .i64 t298, .int .i64 t299, .int .i64 t300, .int .i64 t301, .int .i64 t302, .int .i64 t303, .int .i64 t304] 37 (0, 0)) (by (with_reducible repeat (first | apply bn | apply bd | apply ba)); exact p8 BK306) hb); replace HB := az (below_step (by repeat (first | (with_reducible first | exact HB.out | apply wa | apply wn | apply wd | refine ws ‹_› ?_) | exact HB.out)) hb); (try clear hb); (try clear hb2); (try clear hk); (try clear hi)) | ((with_reducible refine gate_dst (N := 9) rfl ?_); refine box_event ?hg (N := 9) ?hd (cs := #[.int .i64 0, .int .i64 0, .int .i64 0, .int .i64 0, .int .i64 0, .int .i64 0, .int .i64 0, .int .i64 0]) (t := 37) ?hr ?_; (case hd => rfl); (case hg => rfl); (case hr => first | (go_simp; done) | (go_simp; rfl)); intro gb316 hg w108 hbox hb; have BK316 := az (hbox); have GW316 := az ((by rw [hg]; exact (below_size (by repeat (first | (with_reducible first | exact HB.out | apply wa | apply wn | apply wd | refine ws ‹_› ?_) | exact HB.out))) : w.heap.size ≤ gb316)); have GE316 := GW316; replace HB := az (below_step (by repeat (first | (with_reducible first | exact HB.out | apply wa | apply wn | apply wd | refine ws ‹_› ?_) | exact HB.out)) hb); obtain ⟨NB283_316, NB316_283⟩ := nb BK283 hg (fun h => by (with_reducible repeat (first | apply bn | apply bd | apply ba)); exact h); replace BK283 := bb BK283 (fun h => by (with_reducible repeat (first | apply bn | apply bd | apply ba)); exact h) hb; obtain ⟨NB296_316, NB316_296⟩ := nb BK296 hg (fun h => by (with_reducible repeat (first | apply bn | apply bd | apply ba)); exact h); replace BK296 := bb BK296 (fun h => by (with_reducible repeat (first | apply bn | apply bd | apply ba)); exact h) hb; obtain ⟨NB306_316, NB316_306⟩ := nb BK306 hg (fun h => by (with_reducible repeat (first | apply bn | apply bd | apply ba)); exact h); replace BK306 := bb BK306 (fun h => by (with_reducible repeat (first | apply bn | apply bd | apply ba)); exact h) hb; clear hb hbox hg; have hnb109 := NB316_283.out; have hnc109 := NB283_316.out; have hnb110 := NB316_296.out; have hnc110 := NB296_316.out; have hnb111 := NB316_306.out; have hnc111 := NB306_316.out; obtain ⟨hcz112_0, hcz112_1, hcz112_2, hcz112_3, hcz112_4, hcz112_5, hcz112_6, hcz112_7⟩ := cz8 BK316; obtain ⟨hfz112_0, hfz112_1, hfz112_2, hfz112_3, hfz112_4, hfz112_5, hfz112_6⟩ := fz7 BK316; have hfz112_7 := blk_frozen BK316.out 7))
           go_ret
           exact ⟨by first | rfl | (simp [errW_none, errW_some] <;> rfl) | (simp only [← hji20]; first | rfl | (simp [errW_none, errW_some] <;> rfl)) | (simp [*, errW_none, errW_some] <;> rfl), by repeat (first | (with_reducible first | exact HB.out | apply wa | apply wn | apply wd | refine ws ‹_› ?_) | exact HB.out)⟩
        ·rw [if_neg c26] at H
         exact absurd H (by simp)
       ·rw [if_neg c24] at H
        exact absurd H (by simp)
      ·rw [if_neg c22] at H
       exact absurd H (by simp)
     ·rw [if_neg c21] at H
      exact absurd H (by simp)

end Go.Proofs.YtajdjoggflagdaaDoor.Pr
