-- Laid by a program (extract.py) out of this seat's translation: contracts of a few functions, a text a function; Lean checks them.
import Derived.Test.YtajdjoggflagdaaDoorPrK
import Derived.Test.YtajdjoggflagdaaDoorPrSR
import Derived.Test.YtajdjoggflagdaaDoorPrDRR
import Derived.Test.YtajdjoggflagdaaDoorRRx
import Derived.Test.YtajdjoggflagdaaDoorSq
namespace Go.Proofs.YtajdjoggflagdaaDoor.Pr
open Go.RowKit Go.Proofs.YtajdjoggflagdaaDoorW.PrintWords Go.Proofs.YtajdjoggflagdaaDoorW.PrintLast Go.Proofs.YtajdjoggflagdaaDoorW.PrintMore
attribute [local go_sem] max2_int min2_int max_two min_two max_three min_three max_four min_four
set_option linter.unusedVariables false
set_option linter.unusedSimpArgs false
theorem eqA37 (d : Nat) (w : World) (x0 y0 : Int) (x1 y1 : Int) (x2 y2 : Int) (x3 y3 : Int) (x4 y4 : Int) (x5 y5 : Int) (x6 y6 : Int) (x7 y7 : Int) :
  (Op.equalIn (d + 2) 37 (.agg #[.int .i64 x0, .int .i64 x1, .int .i64 x2, .int .i64 x3, .int .i64 x4, .int .i64 x5, .int .i64 x6, .int .i64 x7]) (.agg #[.int .i64 y0, .int .i64 y1, .int .i64 y2, .int .i64 y3, .int .i64 y4, .int .i64 y5, .int .i64 y6, .int .i64 y7])).run Tryd.prog w = .ok (x0 == y0 && (x1 == y1 && (x2 == y2 && (x3 == y3 && (x4 == y4 && (x5 == y5 && (x6 == y6 && (x7 == y7)))))))) w := by
 refine eqA_of Tryd.underlying37 (by kernel_rfl) ?_
 refine eqf_cons (by rfl) (by go_simp; rfl) (by go_simp; rfl) (by go_simp) ?_
 refine eqf_cons (by rfl) (by go_simp; rfl) (by go_simp; rfl) (by go_simp) ?_
 refine eqf_cons (by rfl) (by go_simp; rfl) (by go_simp; rfl) (by go_simp) ?_
 refine eqf_cons (by rfl) (by go_simp; rfl) (by go_simp; rfl) (by go_simp) ?_
 refine eqf_cons (by rfl) (by go_simp; rfl) (by go_simp; rfl) (by go_simp) ?_
 refine eqf_cons (by rfl) (by go_simp; rfl) (by go_simp; rfl) (by go_simp) ?_
 refine eqf_cons (by rfl) (by go_simp; rfl) (by go_simp; rfl) (by go_simp) ?_
 exact eqf_last (by rfl) (by go_simp; rfl) (by go_simp; rfl) (by go_simp)
attribute [local go_sem high] eqA37
/-! ### laws_FnRecStrict: function 11 -/
def laws_FnRecStrict.j0 : Nat → ByteArray → Bool → Bool → Bool → Int → Int → Int → Int → Int → Int → Int → Int → Int → Int → Int → Int → Int → Int → Int → Int → Option (Bool)
 | 0, _, _, _, _, _, _, _, _, _, _, _, _, _, _, _, _, _, _, _, _ => none
 | k + 1, x3, x5, x7, x34, x314000, x314001, x314002, x314003, x314004, x314005, x314006, x314007, x324000, x324001, x324002, x324003, x324004, x324005, x324006, x324007 => if x34 = true then (if (x7 == x5) = true then (some (x324000 == x314000 && (x324001 == x314001 && (x324002 == x314002 && (x324003 == x314003 && (x324004 == x314004 && (x324005 == x314005 && (x324006 == x314006 && (x324007 == x314007))))))))) else (some false)) else ((impl_RecOk.f k x324000 x324001 x324002 x324003 x324004 x324005 x324006 x324007).bind fun t324 => (if t324 = true then ((impl_RecText.f k x324000 x324001 x324002 x324003 x324004 x324005 x324006 x324007).bind fun t325 => (some (t325.toList == x3.toList))) else (some false)))
def laws_FnRecStrict.f (k : Nat) (l0 : List Int) : Option (Bool) := if (l0.length : Int) > 1048576 then (some true) else ((spec_DrawRecRead.f k l0).bind fun t303 => ((spec_RecRead.f k t303).bind fun bt304 => ((impl_RecRead.f k t303).bind fun bt314 => (if (bt314.2.2.2.2.2.2.2.2 != bt304.2.2.2.2.2.2.2.2) = true then (laws_FnRecStrict.j0 k t303 bt304.2.2.2.2.2.2.2.2 bt314.2.2.2.2.2.2.2.2 true bt304.1 bt304.2.1 bt304.2.2.1 bt304.2.2.2.1 bt304.2.2.2.2.1 bt304.2.2.2.2.2.1 bt304.2.2.2.2.2.2.1 bt304.2.2.2.2.2.2.2.1 bt314.1 bt314.2.1 bt314.2.2.1 bt314.2.2.2.1 bt314.2.2.2.2.1 bt314.2.2.2.2.2.1 bt314.2.2.2.2.2.2.1 bt314.2.2.2.2.2.2.2.1) else (if (!(bt314.1 == bt304.1) || (!(bt314.2.1 == bt304.2.1) || (!(bt314.2.2.1 == bt304.2.2.1) || (!(bt314.2.2.2.1 == bt304.2.2.2.1) || (!(bt314.2.2.2.2.1 == bt304.2.2.2.2.1) || (!(bt314.2.2.2.2.2.1 == bt304.2.2.2.2.2.1) || (!(bt314.2.2.2.2.2.2.1 == bt304.2.2.2.2.2.2.1) || (!(bt314.2.2.2.2.2.2.2.1 == bt304.2.2.2.2.2.2.2.1))))))))) = true then (laws_FnRecStrict.j0 k t303 bt304.2.2.2.2.2.2.2.2 bt314.2.2.2.2.2.2.2.2 true bt304.1 bt304.2.1 bt304.2.2.1 bt304.2.2.2.1 bt304.2.2.2.2.1 bt304.2.2.2.2.2.1 bt304.2.2.2.2.2.2.1 bt304.2.2.2.2.2.2.2.1 bt314.1 bt314.2.1 bt314.2.2.1 bt314.2.2.2.1 bt314.2.2.2.2.1 bt314.2.2.2.2.2.1 bt314.2.2.2.2.2.2.1 bt314.2.2.2.2.2.2.2.1) else (laws_FnRecStrict.j0 k t303 bt304.2.2.2.2.2.2.2.2 bt314.2.2.2.2.2.2.2.2 (!bt314.2.2.2.2.2.2.2.2) bt304.1 bt304.2.1 bt304.2.2.1 bt304.2.2.2.1 bt304.2.2.2.2.1 bt304.2.2.2.2.2.1 bt304.2.2.2.2.2.2.1 bt304.2.2.2.2.2.2.2.1 bt314.1 bt314.2.1 bt314.2.2.1 bt314.2.2.2.1 bt314.2.2.2.2.1 bt314.2.2.2.2.2.1 bt314.2.2.2.2.2.2.1 bt314.2.2.2.2.2.2.2.1))))))
set_option maxHeartbeats 8000000 in
set_option maxRecDepth 100000 in
theorem laws_FnRecStrict.calls (k : Nat) (A0 : Option Addr) (c0 : Nat) (l0 : List Int) (r : Bool) (w : World) (hdoor : Door w) (hr0 : Kd.C (Kd.int .u8) w A0 l0.length l0) (hc0 : l0.length ≤ c0) (h : laws_FnRecStrict.f k l0 = some r) (hT_ : Aside0 (r = true)) :
  Calls Tryd.prog 11 #[.slice A0 l0.length c0] w fun e w' => e = .returned (.bool r) ∧ Below w.heap.size w w' := by
 have hu37 := Tryd.underlying37
 have HR0 := az hr0
 have HC0 := az hc0
 clear hr0 hc0
 have HB := az (Below.refl w.heap.size w)
 have HD := az hdoor
 clear hdoor
 have H : (if (l0.length : Int) > 1048576 then (some true) else ((spec_DrawRecRead.f k l0).bind fun t303 => ((spec_RecRead.f k t303).bind fun bt304 => ((impl_RecRead.f k t303).bind fun bt314 => (if (bt314.2.2.2.2.2.2.2.2 != bt304.2.2.2.2.2.2.2.2) = true then (laws_FnRecStrict.j0 k t303 bt304.2.2.2.2.2.2.2.2 bt314.2.2.2.2.2.2.2.2 true bt304.1 bt304.2.1 bt304.2.2.1 bt304.2.2.2.1 bt304.2.2.2.2.1 bt304.2.2.2.2.2.1 bt304.2.2.2.2.2.2.1 bt304.2.2.2.2.2.2.2.1 bt314.1 bt314.2.1 bt314.2.2.1 bt314.2.2.2.1 bt314.2.2.2.2.1 bt314.2.2.2.2.2.1 bt314.2.2.2.2.2.2.1 bt314.2.2.2.2.2.2.2.1) else (if (!(bt314.1 == bt304.1) || (!(bt314.2.1 == bt304.2.1) || (!(bt314.2.2.1 == bt304.2.2.1) || (!(bt314.2.2.2.1 == bt304.2.2.2.1) || (!(bt314.2.2.2.2.1 == bt304.2.2.2.2.1) || (!(bt314.2.2.2.2.2.1 == bt304.2.2.2.2.2.1) || (!(bt314.2.2.2.2.2.2.1 == bt304.2.2.2.2.2.2.1) || (!(bt314.2.2.2.2.2.2.2.1 == bt304.2.2.2.2.2.2.2.1))))))))) = true then (laws_FnRecStrict.j0 k t303 bt304.2.2.2.2.2.2.2.2 bt314.2.2.2.2.2.2.2.2 true bt304.1 bt304.2.1 bt304.2.2.1 bt304.2.2.2.1 bt304.2.2.2.2.1 bt304.2.2.2.2.2.1 bt304.2.2.2.2.2.2.1 bt304.2.2.2.2.2.2.2.1 bt314.1 bt314.2.1 bt314.2.2.1 bt314.2.2.2.1 bt314.2.2.2.2.1 bt314.2.2.2.2.2.1 bt314.2.2.2.2.2.2.1 bt314.2.2.2.2.2.2.2.1) else (laws_FnRecStrict.j0 k t303 bt304.2.2.2.2.2.2.2.2 bt314.2.2.2.2.2.2.2.2 (!bt314.2.2.2.2.2.2.2.2) bt304.1 bt304.2.1 bt304.2.2.1 bt304.2.2.2.1 bt304.2.2.2.2.1 bt304.2.2.2.2.2.1 bt304.2.2.2.2.2.2.1 bt304.2.2.2.2.2.2.2.1 bt314.1 bt314.2.1 bt314.2.2.1 bt314.2.2.2.1 bt314.2.2.2.2.1 bt314.2.2.2.2.2.1 bt314.2.2.2.2.2.2.1 bt314.2.2.2.2.2.2.2.1))))))) = some r := h
 clear h
 by_cases c2 : (l0.length : Int) > 1048576
 ·rw [if_pos c2] at H
  have c2b0 : decide (1048576 < (l0.length : Int)) = true := decide_eq_true c2
  have c2b1 : decide (1048576 < l0.length) = true := decide_eq_true (by omega)
  clear c2
  obtain rfl := Option.some.inj H
  go_enter Tryd.func11, Tryd.ntmps11
  go_wp2
  go_ret
  exact ⟨by first | rfl | (simp [errW_none, errW_some] <;> rfl) | (simp [*, errW_none, errW_some] <;> rfl), by repeat (first | (with_reducible first | exact HB.out | apply wa | apply wn | apply wd) | exact HB.out)⟩
 ·rw [if_neg c2] at H
  have c2b0 : decide (1048576 < (l0.length : Int)) = false := decide_eq_false c2
  have c2b1 : decide (1048576 < l0.length) = false := decide_eq_false (by omega)
  clear c2
  replace H := Option.bind_eq_some_iff.mp H
  obtain ⟨t303, A30, H⟩ := H
  replace H : ((spec_RecRead.f k t303).bind fun bt304 => ((impl_RecRead.f k t303).bind fun bt314 => (if (bt314.2.2.2.2.2.2.2.2 != bt304.2.2.2.2.2.2.2.2) = true then (laws_FnRecStrict.j0 k t303 bt304.2.2.2.2.2.2.2.2 bt314.2.2.2.2.2.2.2.2 true bt304.1 bt304.2.1 bt304.2.2.1 bt304.2.2.2.1 bt304.2.2.2.2.1 bt304.2.2.2.2.2.1 bt304.2.2.2.2.2.2.1 bt304.2.2.2.2.2.2.2.1 bt314.1 bt314.2.1 bt314.2.2.1 bt314.2.2.2.1 bt314.2.2.2.2.1 bt314.2.2.2.2.2.1 bt314.2.2.2.2.2.2.1 bt314.2.2.2.2.2.2.2.1) else (if (!(bt314.1 == bt304.1) || (!(bt314.2.1 == bt304.2.1) || (!(bt314.2.2.1 == bt304.2.2.1) || (!(bt314.2.2.2.1 == bt304.2.2.2.1) || (!(bt314.2.2.2.2.1 == bt304.2.2.2.2.1) || (!(bt314.2.2.2.2.2.1 == bt304.2.2.2.2.2.1) || (!(bt314.2.2.2.2.2.2.1 == bt304.2.2.2.2.2.2.1) || (!(bt314.2.2.2.2.2.2.2.1 == bt304.2.2.2.2.2.2.2.1))))))))) = true then (laws_FnRecStrict.j0 k t303 bt304.2.2.2.2.2.2.2.2 bt314.2.2.2.2.2.2.2.2 true bt304.1 bt304.2.1 bt304.2.2.1 bt304.2.2.2.1 bt304.2.2.2.2.1 bt304.2.2.2.2.2.1 bt304.2.2.2.2.2.2.1 bt304.2.2.2.2.2.2.2.1 bt314.1 bt314.2.1 bt314.2.2.1 bt314.2.2.2.1 bt314.2.2.2.2.1 bt314.2.2.2.2.2.1 bt314.2.2.2.2.2.2.1 bt314.2.2.2.2.2.2.2.1) else (laws_FnRecStrict.j0 k t303 bt304.2.2.2.2.2.2.2.2 bt314.2.2.2.2.2.2.2.2 (!bt314.2.2.2.2.2.2.2.2) bt304.1 bt304.2.1 bt304.2.2.1 bt304.2.2.2.1 bt304.2.2.2.2.1 bt304.2.2.2.2.2.1 bt304.2.2.2.2.2.2.1 bt304.2.2.2.2.2.2.2.1 bt314.1 bt314.2.1 bt314.2.2.1 bt314.2.2.2.1 bt314.2.2.2.2.1 bt314.2.2.2.2.2.1 bt314.2.2.2.2.2.2.1 bt314.2.2.2.2.2.2.2.1))))) = some r := H
  have A3 := az A30
  clear A30
  replace H := Option.bind_eq_some_iff.mp H
  obtain ⟨⟨t304, t305, t306, t307, t308, t309, t310, t311, t312⟩, A40, H⟩ := H
  replace H : ((impl_RecRead.f k t303).bind fun bt314 => (if (bt314.2.2.2.2.2.2.2.2 != t312) = true then (laws_FnRecStrict.j0 k t303 t312 bt314.2.2.2.2.2.2.2.2 true t304 t305 t306 t307 t308 t309 t310 t311 bt314.1 bt314.2.1 bt314.2.2.1 bt314.2.2.2.1 bt314.2.2.2.2.1 bt314.2.2.2.2.2.1 bt314.2.2.2.2.2.2.1 bt314.2.2.2.2.2.2.2.1) else (if (!(bt314.1 == t304) || (!(bt314.2.1 == t305) || (!(bt314.2.2.1 == t306) || (!(bt314.2.2.2.1 == t307) || (!(bt314.2.2.2.2.1 == t308) || (!(bt314.2.2.2.2.2.1 == t309) || (!(bt314.2.2.2.2.2.2.1 == t310) || (!(bt314.2.2.2.2.2.2.2.1 == t311))))))))) = true then (laws_FnRecStrict.j0 k t303 t312 bt314.2.2.2.2.2.2.2.2 true t304 t305 t306 t307 t308 t309 t310 t311 bt314.1 bt314.2.1 bt314.2.2.1 bt314.2.2.2.1 bt314.2.2.2.2.1 bt314.2.2.2.2.2.1 bt314.2.2.2.2.2.2.1 bt314.2.2.2.2.2.2.2.1) else (laws_FnRecStrict.j0 k t303 t312 bt314.2.2.2.2.2.2.2.2 (!bt314.2.2.2.2.2.2.2.2) t304 t305 t306 t307 t308 t309 t310 t311 bt314.1 bt314.2.1 bt314.2.2.1 bt314.2.2.2.1 bt314.2.2.2.2.1 bt314.2.2.2.2.2.1 bt314.2.2.2.2.2.2.1 bt314.2.2.2.2.2.2.2.1)))) = some r := H
  have A4 := az A40
  clear A40
  replace H := Option.bind_eq_some_iff.mp H
  obtain ⟨⟨t314, t315, t316, t317, t318, t319, t320, t321, t322⟩, A50, H⟩ := H
  replace H : (if (t322 != t312) = true then (laws_FnRecStrict.j0 k t303 t312 t322 true t304 t305 t306 t307 t308 t309 t310 t311 t314 t315 t316 t317 t318 t319 t320 t321) else (if (!(t314 == t304) || (!(t315 == t305) || (!(t316 == t306) || (!(t317 == t307) || (!(t318 == t308) || (!(t319 == t309) || (!(t320 == t310) || (!(t321 == t311))))))))) = true then (laws_FnRecStrict.j0 k t303 t312 t322 true t304 t305 t306 t307 t308 t309 t310 t311 t314 t315 t316 t317 t318 t319 t320 t321) else (laws_FnRecStrict.j0 k t303 t312 t322 (!t322) t304 t305 t306 t307 t308 t309 t310 t311 t314 t315 t316 t317 t318 t319 t320 t321))) = some r := H
  have A5 := az A50
  clear A50
  have HC6 := az H
  clear H
  go_enter Tryd.func11, Tryd.ntmps11
  go_upto_region 6 with (first | ((with_reducible refine gate_callee (f := 29) rfl ?_); refine goesL_ (some 12) rfl rfl Tryd.func29 (by kernel_rfl) rfl #[.slice A0 l0.length c0] rfl (by (try simp only [List.map_toArray, List.map_cons, List.map_nil]); first | done | rfl | (simp only [List.length_drop, List.length_take]; rfl)) ?_; (with_reducible refine (spec_DrawRecRead.calls k _ _ l0 t303 _ ?side1 ?side2 A3.out).mono ?_); (case side1 => repeat (first | exact HR0.out | (with_reducible refine Kd.C_alloc ?_ _) | (with_reducible refine Kd.C_drewN ?_ _) | (with_reducible refine Kd.C_drew ?_))); (case side2 => exact HC0.out); rintro e w7 ⟨rfl, hb⟩; refine ⟨_, rfl, ?_⟩; replace HB := az (below_step (by repeat (first | (with_reducible first | exact HB.out | apply wa | apply wn | apply wd) | exact HB.out)) hb); (try clear hb); (try clear hb2); (try clear hk); (try clear hi)) | ((with_reducible refine gate_callee (f := 27) rfl ?_); refine goesL_ (some 15) rfl rfl Tryd.func27 (by kernel_rfl) rfl #[.string t303] rfl (by (try simp only [List.map_toArray, List.map_cons, List.map_nil]); first | done | rfl | (simp only [List.length_drop, List.length_take]; rfl)) ?_; (with_reducible refine (spec_RecRead.calls k t303 t304 t305 t306 t307 t308 t309 t310 t311 t312 _ A4.out).mono ?_); rintro e w8 ⟨rfl, hb⟩; refine ⟨_, rfl, ?_⟩; replace HB := az (below_step (by repeat (first | (with_reducible first | exact HB.out | apply wa | apply wn | apply wd) | exact HB.out)) hb); (try clear hb); (try clear hb2); (try clear hk); (try clear hi)) | ((with_reducible refine gate_dst (N := 4) rfl ?_); refine box_event ?hg (N := 4) ?hd (cs := #[.int .i64 0, .int .i64 0, .int .i64 0, .int .i64 0, .int .i64 0, .int .i64 0, .int .i64 0, .int .i64 0]) (t := 37) ?hr ?_; (case hd => rfl); (case hg => rfl); (case hr => first | (go_simp; done) | (go_simp; rfl)); intro gb313 hg w9 hbox hb; have BK313 := az (hbox); have GW313 := az ((by rw [hg]; exact (below_size (by repeat (first | (with_reducible first | exact HB.out | apply wa | apply wn | apply wd) | exact HB.out))) : w.heap.size ≤ gb313)); have GE313 := GW313; replace HB := az (below_step (by repeat (first | (with_reducible first | exact HB.out | apply wa | apply wn | apply wd) | exact HB.out)) hb); clear hb hbox hg; obtain ⟨hcz10_0, hcz10_1, hcz10_2, hcz10_3, hcz10_4, hcz10_5, hcz10_6, hcz10_7⟩ := cz8 BK313; obtain ⟨hfz10_0, hfz10_1, hfz10_2, hfz10_3, hfz10_4, hfz10_5, hfz10_6⟩ := fz7 BK313; have hfz10_7 := blk_frozen BK313.out 7) | ((with_reducible refine gate_callee (f := 25) rfl ?_); refine goesL_ (some 20) rfl rfl Tryd.func25 (by kernel_rfl) rfl #[.string t303] rfl (by (try simp only [List.map_toArray, List.map_cons, List.map_nil]); first | done | rfl | (simp only [List.length_drop, List.length_take]; rfl)) ?_; (with_reducible refine (impl_RecRead.calls k t303 t314 t315 t316 t317 t318 t319 t320 t321 t322 _ (HD.out.on (by repeat (first | (with_reducible first | exact HB.out | apply wa | apply wn | apply wd | refine ws ‹_› ?_) | exact HB.out))) A5.out).mono ?_); rintro e w11 ⟨rfl, hb⟩; refine ⟨_, rfl, ?_⟩; replace BK313 := az (blk_below (g := gb313) (o := .cells #[.int .i64 t304, .int .i64 t305, .int .i64 t306, .int .i64 t307, .int .i64 t308, .int .i64 t309, .int .i64 t310, .int .i64 t311] 37 (0, 0)) (by (with_reducible repeat (first | apply bn | apply bd | apply ba)); exact p8 BK313) hb); replace HB := az (below_step (by repeat (first | (with_reducible first | exact HB.out | apply wa | apply wn | apply wd | refine ws ‹_› ?_) | exact HB.out)) hb); (try clear hb); (try clear hb2); (try clear hk); (try clear hi)) | ((with_reducible refine gate_dst (N := 6) rfl ?_); refine box_event ?hg (N := 6) ?hd (cs := #[.int .i64 0, .int .i64 0, .int .i64 0, .int .i64 0, .int .i64 0, .int .i64 0, .int .i64 0, .int .i64 0]) (t := 37) ?hr ?_; (case hd => rfl); (case hg => rfl); (case hr => first | (go_simp; done) | (go_simp; rfl)); intro gb323 hg w12 hbox hb; have BK323 := az (hbox); have GW323 := az ((by rw [hg]; exact (below_size (by repeat (first | (with_reducible first | exact HB.out | apply wa | apply wn | apply wd | refine ws ‹_› ?_) | exact HB.out))) : w.heap.size ≤ gb323)); have GE323 := GW323; replace HB := az (below_step (by repeat (first | (with_reducible first | exact HB.out | apply wa | apply wn | apply wd | refine ws ‹_› ?_) | exact HB.out)) hb); obtain ⟨NB313_323, NB323_313⟩ := nb BK313 hg (fun h => by (with_reducible repeat (first | apply bn | apply bd | apply ba)); exact h); replace BK313 := bb BK313 (fun h => by (with_reducible repeat (first | apply bn | apply bd | apply ba)); exact h) hb; clear hb hbox hg; have hnb13 := NB323_313.out; have hnc13 := NB313_323.out; obtain ⟨hcz14_0, hcz14_1, hcz14_2, hcz14_3, hcz14_4, hcz14_5, hcz14_6, hcz14_7⟩ := cz8 BK323; obtain ⟨hfz14_0, hfz14_1, hfz14_2, hfz14_3, hfz14_4, hfz14_5, hfz14_6⟩ := fz7 BK323; have hfz14_7 := blk_frozen BK323.out 7))
  (try simp only [Act.put, List.setIfInBounds_toArray, List.set_cons_zero, List.set_cons_succ])
  go_cut [34] (fun v34 wc => ∃ (kq : Nat) (x34_5 : Bool), v34 = .bool x34_5 ∧ Aside0 (laws_FnRecStrict.j0 kq t303 t312 t322 x34_5 t304 t305 t306 t307 t308 t309 t310 t311 t314 t315 t316 t317 t318 t319 t320 t321 = some r) ∧ Aside0 (kq ≤ k) ∧ Aside0 (wc.heap[gb313]? = some (.cells #[.int .i64 t304, .int .i64 t305, .int .i64 t306, .int .i64 t307, .int .i64 t308, .int .i64 t309, .int .i64 t310, .int .i64 t311] 37 (0, 0))) ∧ Aside0 (wc.heap[gb323]? = some (.cells #[.int .i64 t314, .int .i64 t315, .int .i64 t316, .int .i64 t317, .int .i64 t318, .int .i64 t319, .int .i64 t320, .int .i64 t321] 37 (0, 0))) ∧ Aside0 (Below w.heap.size w wc))
  case first =>
   have H := HC6.out
   clear HC6
   by_cases c15 : (t322 != t312) = true
   ·rw [if_pos c15] at H
    have c15b0 : (t322 != t312) = true := c15
    (try (have c15b1 : decide (t322 = t312) = false := by simpa using c15))
    (try (have c15b2 : (t322 == t312) = false := by simpa using c15))
    (try (have c15b3 : ¬ (t322 = t312) := by simpa using c15))
    clear c15
    (first | rw [c15b0] | (simp only [i64_w, i32_w]; rw [c15b0]) | skip)
    have H' := az H
    clear H
    go_wp2
    go_meet
    case rel => exact ⟨_, (true), (by first | rfl | (simp; done) | (simp [*]; done)), H', ⟨by first | omega | exact Nat.le_refl _⟩, ⟨by (repeat (first | (with_reducible first | apply bn | apply bd | apply ba) | apply bf NB313_323)); exact BK313.out⟩, ⟨by (with_reducible repeat (first | apply bn | apply bd | apply ba)); exact p8 BK323⟩, ⟨by repeat (first | (with_reducible first | exact HB.out | apply wa | apply wn | apply wd | refine ws ‹_› ?_) | exact HB.out)⟩⟩
   ·rw [if_neg c15] at H
    have c15b0 : (t322 != t312) = false := by simpa using c15
    (try (have c15b1 : decide (t322 = t312) = true := by simpa using c15))
    (try (have c15b2 : (t322 == t312) = true := by simpa using c15))
    clear c15
    (first | rw [c15b0] | (simp only [i64_w, i32_w]; rw [c15b0]) | skip)
    by_cases c16 : (!(t314 == t304) || (!(t315 == t305) || (!(t316 == t306) || (!(t317 == t307) || (!(t318 == t308) || (!(t319 == t309) || (!(t320 == t310) || (!(t321 == t311))))))))) = true
    ·rw [if_pos c16] at H
     have c16b0 : (!(t314 == t304) || (!(t315 == t305) || (!(t316 == t306) || (!(t317 == t307) || (!(t318 == t308) || (!(t319 == t309) || (!(t320 == t310) || (!(t321 == t311))))))))) = true := c16
     clear c16
     have H' := az H
     clear H
     have hnb17 := NB323_313.out
     have hnc17 := NB313_323.out
     obtain ⟨hcz18_0, hcz18_1, hcz18_2, hcz18_3, hcz18_4, hcz18_5, hcz18_6, hcz18_7⟩ := cz8 BK323
     obtain ⟨hfz18_0, hfz18_1, hfz18_2, hfz18_3, hfz18_4, hfz18_5, hfz18_6, hfz18_7⟩ := fz8 BK323
     obtain ⟨hcz19_0, hcz19_1, hcz19_2, hcz19_3, hcz19_4, hcz19_5, hcz19_6, hcz19_7⟩ := cz8 BK313
     obtain ⟨hfz19_0, hfz19_1, hfz19_2, hfz19_3, hfz19_4, hfz19_5, hfz19_6, hfz19_7⟩ := fz8 BK313
     go_wp2
     go_meet
     case rel => exact ⟨_, (true), (by first | rfl | (simp; done) | (simp [*]; done)), H', ⟨by first | omega | exact Nat.le_refl _⟩, ⟨by (repeat (first | (with_reducible first | apply bn | apply bd | apply ba) | apply bf NB313_323)); exact BK313.out⟩, ⟨by (with_reducible repeat (first | apply bn | apply bd | apply ba)); exact p8 BK323⟩, ⟨by repeat (first | (with_reducible first | exact HB.out | apply wa | apply wn | apply wd | refine ws ‹_› ?_) | exact HB.out)⟩⟩
    ·rw [if_neg c16] at H
     have c16b0 : (!(t314 == t304) || (!(t315 == t305) || (!(t316 == t306) || (!(t317 == t307) || (!(t318 == t308) || (!(t319 == t309) || (!(t320 == t310) || (!(t321 == t311))))))))) = false := by simpa using c16
     clear c16
     have H' := az H
     clear H
     have hnb20 := NB323_313.out
     have hnc20 := NB313_323.out
     obtain ⟨hcz21_0, hcz21_1, hcz21_2, hcz21_3, hcz21_4, hcz21_5, hcz21_6, hcz21_7⟩ := cz8 BK323
     obtain ⟨hfz21_0, hfz21_1, hfz21_2, hfz21_3, hfz21_4, hfz21_5, hfz21_6, hfz21_7⟩ := fz8 BK323
     obtain ⟨hcz22_0, hcz22_1, hcz22_2, hcz22_3, hcz22_4, hcz22_5, hcz22_6, hcz22_7⟩ := cz8 BK313
     obtain ⟨hfz22_0, hfz22_1, hfz22_2, hfz22_3, hfz22_4, hfz22_5, hfz22_6, hfz22_7⟩ := fz8 BK313
     go_wp2
     go_meet
     case rel => exact ⟨_, (!t322), (by first | rfl | (simp; done) | (simp [*]; done)), H', ⟨by first | omega | exact Nat.le_refl _⟩, ⟨by (repeat (first | (with_reducible first | apply bn | apply bd | apply ba) | apply bf NB313_323)); exact BK313.out⟩, ⟨by (with_reducible repeat (first | apply bn | apply bd | apply ba)); exact p8 BK323⟩, ⟨by repeat (first | (with_reducible first | exact HB.out | apply wa | apply wn | apply wd | refine ws ‹_› ?_) | exact HB.out)⟩⟩
  case rest =>
   clear HC6;(try clear c1);(try clear c2);(try clear c2b0);(try clear c2b1);(try clear p2);(try clear c11);(try clear c13);(try clear c15);(try clear c15b0);(try clear c15b1);(try clear c15b2);(try clear c16);(try clear c16b0);(try clear c17);(try clear c20);(try clear hcz10_0);(try clear hcz10_1);(try clear hcz10_2);(try clear hcz10_3);(try clear hcz10_4);(try clear hcz10_5);(try clear hcz10_6);(try clear hcz10_7);(try clear hcz14_0);(try clear hcz14_1);(try clear hcz14_2);(try clear hcz14_3);(try clear hcz14_4);(try clear hcz14_5);(try clear hcz14_6);(try clear hcz14_7);(try clear hcz18_0);(try clear hcz18_1);(try clear hcz18_2);(try clear hcz18_3);(try clear hcz18_4);(try clear hcz18_5);(try clear hcz18_6);(try clear hcz18_7);(try clear hcz19_0);(try clear hcz19_1);(try clear hcz19_2);(try clear hcz19_3);(try clear hcz19_4);(try clear hcz19_5);(try clear hcz19_6);(try clear hcz19_7);(try clear hcz21_0);(try clear hcz21_1);(try clear hcz21_2);(try clear hcz21_3);(try clear hcz21_4);(try clear hcz21_5);(try clear hcz21_6);(try clear hcz21_7);(try clear hcz22_0);(try clear hcz22_1);(try clear hcz22_2);(try clear hcz22_3);(try clear hcz22_4);(try clear hcz22_5);(try clear hcz22_6);(try clear hcz22_7);(try clear hfz10_0);(try clear hfz10_1);(try clear hfz10_2);(try clear hfz10_3);(try clear hfz10_4);(try clear hfz10_5);(try clear hfz10_6);(try clear hfz10_7);(try clear hfz14_0);(try clear hfz14_1);(try clear hfz14_2);(try clear hfz14_3);(try clear hfz14_4);(try clear hfz14_5);(try clear hfz14_6);(try clear hfz14_7);(try clear hfz18_0);(try clear hfz18_1);(try clear hfz18_2);(try clear hfz18_3);(try clear hfz18_4);(try clear hfz18_5);(try clear hfz18_6);(try clear hfz18_7);(try clear hfz19_0);(try clear hfz19_1);(try clear hfz19_2);(try clear hfz19_3);(try clear hfz19_4);(try clear hfz19_5);(try clear hfz19_6);(try clear hfz19_7);(try clear hfz21_0);(try clear hfz21_1);(try clear hfz21_2);(try clear hfz21_3);(try clear hfz21_4);(try clear hfz21_5);(try clear hfz21_6);(try clear hfz21_7);(try clear hfz22_0);(try clear hfz22_1);(try clear hfz22_2);(try clear hfz22_3);(try clear hfz22_4);(try clear hfz22_5);(try clear hfz22_6);(try clear hfz22_7)
   obtain ⟨kq, x34_5, rfl, HA, HJ5, BK313, BK323, HB⟩ := hcut
   cases kq with
   | zero => exact absurd HA.out (by simp [laws_FnRecStrict.j0])
   | succ kj5 =>
    have H := HA.out
    clear HA
    simp only [laws_FnRecStrict.j0] at H
    by_cases c23 : x34_5 = true
    ·subst c23
     have H1 : (if (t322 == t312) = true then (some (t314 == t304 && (t315 == t305 && (t316 == t306 && (t317 == t307 && (t318 == t308 && (t319 == t309 && (t320 == t310 && (t321 == t311))))))))) else (some false)) = some r := by rw [if_pos rfl] at H; exact H
     clear H
     have H := H1
     clear H1
     by_cases c24 : (t322 == t312) = true
     ·rw [if_pos c24] at H
      have c24b0 : (t322 == t312) = true := c24
      (try (have c24b1 : decide (t322 = t312) = true := by simpa using c24))
      (try (have c24b2 : (t322 == t312) = true := by simpa using c24))
      clear c24
      obtain rfl := Option.some.inj H
      have hnb25 := NB323_313.out
      have hnc25 := NB313_323.out
      obtain ⟨hcz26_0, hcz26_1, hcz26_2, hcz26_3, hcz26_4, hcz26_5, hcz26_6, hcz26_7⟩ := cz8 BK323
      obtain ⟨hfz26_0, hfz26_1, hfz26_2, hfz26_3, hfz26_4, hfz26_5, hfz26_6, hfz26_7⟩ := fz8 BK323
      obtain ⟨hcz27_0, hcz27_1, hcz27_2, hcz27_3, hcz27_4, hcz27_5, hcz27_6, hcz27_7⟩ := cz8 BK313
      obtain ⟨hfz27_0, hfz27_1, hfz27_2, hfz27_3, hfz27_4, hfz27_5, hfz27_6, hfz27_7⟩ := fz8 BK313
      go_wp2
      go_ret
      exact ⟨by first | rfl | (simp [errW_none, errW_some] <;> rfl) | (simp [*, errW_none, errW_some] <;> rfl), by repeat (first | (with_reducible first | exact HB.out | apply wa | apply wn | apply wd | refine ws ‹_› ?_) | exact HB.out)⟩
     ·rw [if_neg c24] at H
      have c24b0 : (t322 == t312) = false := by simpa using c24
      (try (have c24b1 : decide (t322 = t312) = false := by simpa using c24))
      (try (have c24b2 : (t322 == t312) = false := by simpa using c24))
      (try (have c24b3 : ¬ (t322 = t312) := by simpa using c24))
      clear c24
      obtain rfl := Option.some.inj H
      exact absurd hT_.out (by simp)
    ·replace c23 := Bool.eq_false_iff.mpr c23
     subst c23
     have H1 : ((impl_RecOk.f kj5 t314 t315 t316 t317 t318 t319 t320 t321).bind fun t324 => (if t324 = true then ((impl_RecText.f kj5 t314 t315 t316 t317 t318 t319 t320 t321).bind fun t325 => (some (t325.toList == t303.toList))) else (some false))) = some r := by rw [if_neg (show ¬ (false = true) by decide)] at H; exact H
     clear H
     have H := H1
     clear H1
     replace H := Option.bind_eq_some_iff.mp H
     obtain ⟨t324, A280, H⟩ := H
     replace H : (if t324 = true then ((impl_RecText.f kj5 t314 t315 t316 t317 t318 t319 t320 t321).bind fun t325 => (some (t325.toList == t303.toList))) else (some false)) = some r := H
     have A28 := az A280
     clear A280
     by_cases c29 : t324 = true
     ·subst c29
      have H1 : ((impl_RecText.f kj5 t314 t315 t316 t317 t318 t319 t320 t321).bind fun t325 => (some (t325.toList == t303.toList))) = some r := by rw [if_pos rfl] at H; exact H
      clear H
      have H := H1
      clear H1
      replace H := Option.bind_eq_some_iff.mp H
      obtain ⟨t325, A300, H⟩ := H
      replace H : (some (t325.toList == t303.toList)) = some r := H
      have A30 := az A300
      clear A300
      obtain rfl := Option.some.inj H
      have hnb31 := NB323_313.out
      have hnc31 := NB313_323.out
      obtain ⟨hcz32_0, hcz32_1, hcz32_2, hcz32_3, hcz32_4, hcz32_5, hcz32_6, hcz32_7⟩ := cz8 BK323
      obtain ⟨hfz32_0, hfz32_1, hfz32_2, hfz32_3, hfz32_4, hfz32_5, hfz32_6, hfz32_7⟩ := fz8 BK323
      go_wp2_with (first | ((with_reducible refine gate_callee (f := 26) rfl ?_); refine goesL_ (some 44) rfl rfl Tryd.func26 (by kernel_rfl) rfl #[.agg #[.int .i64 t314, .int .i64 t315, .int .i64 t316, .int .i64 t317, .int .i64 t318, .int .i64 t319, .int .i64 t320, .int .i64 t321]] rfl (by (try simp only [List.map_toArray, List.map_cons, List.map_nil]); first | done | rfl | (simp only [List.length_drop, List.length_take]; rfl)) ?_; (with_reducible refine (impl_RecOk.calls kj5 t314 t315 t316 t317 t318 t319 t320 t321 true _ A28.out).mono ?_); rintro e w33 ⟨rfl, hb⟩; refine ⟨_, rfl, ?_⟩; replace BK313 := bb BK313 (fun h => by (with_reducible repeat (first | apply bn | apply bd | apply ba)); exact h) hb; replace BK323 := bb BK323 (fun h => by (with_reducible repeat (first | apply bn | apply bd | apply ba)); exact h) hb; replace HB := az (below_step (by repeat (first | (with_reducible first | exact HB.out | apply wa | apply wn | apply wd | refine ws ‹_› ?_) | exact HB.out)) hb); (try clear hb); (try clear hb2); (try clear hk); (try clear hi); obtain ⟨hcz34_0, hcz34_1, hcz34_2, hcz34_3, hcz34_4, hcz34_5, hcz34_6, hcz34_7⟩ := cz8 BK323; obtain ⟨hfz34_0, hfz34_1, hfz34_2, hfz34_3, hfz34_4, hfz34_5, hfz34_6⟩ := fz7 BK323; have hfz34_7 := blk_frozen BK323.out 7) | (go_at_call 22; (with_reducible refine (impl_RecText.calls kj5 t314 t315 t316 t317 t318 t319 t320 t321 t325 _ (HD.out.on (by repeat (first | (with_reducible first | exact HB.out | apply wa | apply wn | apply wd | refine ws ‹_› ?_) | exact HB.out))).tab A30.out).mono ?_); rintro e w35 ⟨rfl, hb⟩; replace BK313 := bb BK313 (fun h => by (with_reducible repeat (first | apply bn | apply bd | apply ba)); exact h) hb; replace BK323 := bb BK323 (fun h => by (with_reducible repeat (first | apply bn | apply bd | apply ba)); exact h) hb; replace HB := az (below_step (by repeat (first | (with_reducible first | exact HB.out | apply wa | apply wn | apply wd | refine ws ‹_› ?_) | exact HB.out)) hb); (try clear hb); (try clear hb2); (try clear hk); (try clear hi)))
      go_ret
      exact ⟨by first | rfl | (simp [errW_none, errW_some] <;> rfl) | (simp [*, errW_none, errW_some] <;> rfl), by repeat (first | (with_reducible first | exact HB.out | apply wa | apply wn | apply wd | refine ws ‹_› ?_) | exact HB.out)⟩
     ·replace c29 := Bool.eq_false_iff.mpr c29
      subst c29
      have H1 : (some false) = some r := by rw [if_neg (show ¬ (false = true) by decide)] at H; exact H
      clear H
      have H := H1
      clear H1
      obtain rfl := Option.some.inj H
      exact absurd hT_.out (by simp)
end Go.Proofs.YtajdjoggflagdaaDoor.Pr
