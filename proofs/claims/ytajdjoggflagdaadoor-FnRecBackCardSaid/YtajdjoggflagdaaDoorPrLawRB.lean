-- Laid by a program (extract.py) out of this seat's translation: contracts of a few functions, a text a function; Lean checks them.
import Derived.Test.YtajdjoggflagdaaDoorPrK
import Derived.Test.YtajdjoggflagdaaDoorRRx
import Derived.Test.YtajdjoggflagdaaDoorPrDRT
import Derived.Test.YtajdjoggflagdaaDoorSq
namespace Go.Proofs.YtajdjoggflagdaaDoor.Pr
open Go.RowKit Go.Proofs.YtajdjoggflagdaaDoorW.PrintWords Go.Proofs.YtajdjoggflagdaaDoorW.PrintLast Go.Proofs.YtajdjoggflagdaaDoorW.PrintMore
attribute [local go_sem] max2_int min2_int max_two min_two max_three min_three max_four min_four
set_option linter.unusedVariables false
set_option linter.unusedSimpArgs false
theorem eqA37 (d : Nat) (w : World) (x0 y0 : Int) (x1 y1 : Int) (x2 y2 : Int) (x3 y3 : Int) (x4 y4 : Int) (x5 y5 : Int) (x6 y6 : Int) (x7 y7 : Int) :
  (Op.equalIn (d + 2) 37 (.agg #[.int .i64 x0, .int .i64 x1, .int .i64 x2, .int .i64 x3, .int .i64 x4, .int .i64 x5, .int .i64 x6, .int .i64 x7]) (.agg #[.int .i64 y0, .int .i64 y1, .int .i64 y2, .int .i64 y3, .int .i64 y4, .int .i64 y5, .int .i64 y6, .int .i64 y7])).run Tryd.prog w = .ok (x0 == y0 && (x1 == y1 && (x2 == y2 && (x3 == y3 && (x4 == y4 && (x5 == y5 && (x6 == y6 && (x7 == y7)))))))) w := by
 refine eqA_of Tryd.underlying37 (by kernel_rfl) ?_
 refine eqf_cons (by rfl) (by go_simp; rfl) (by go_simp; rfl) (by go_simp) ?_
 refine eqf_cons (by rfl) (by go_simp; rfl) (by go_simp; rfl) (by go_simp) ?_
 refine eqf_cons (by rfl) (by go_simp; rfl) (by go_simp; rfl) (by go_simp) ?_
 refine eqf_cons (by rfl) (by go_simp; rfl) (by go_simp; rfl) (by go_simp) ?_
 refine eqf_cons (by rfl) (by go_simp; rfl) (by go_simp; rfl) (by go_simp) ?_
 refine eqf_cons (by rfl) (by go_simp; rfl) (by go_simp; rfl) (by go_simp) ?_
 refine eqf_cons (by rfl) (by go_simp; rfl) (by go_simp; rfl) (by go_simp) ?_
 exact eqf_last (by rfl) (by go_simp; rfl) (by go_simp; rfl) (by go_simp)
attribute [local go_sem high] eqA37
/-! ### laws_FnRecBack: function 8 -/
def laws_FnRecBack.j0 : Nat → ByteArray → Bool → Int → Int → Int → Int → Int → Int → Int → Int → Option (Bool)
 | 0, _, _, _, _, _, _, _, _, _, _ => none
 | k + 1, x4, x21, x261000, x261001, x261002, x261003, x261004, x261005, x261006, x261007 => if x21 = true then ((spec_RecText.f k x261000 x261001 x261002 x261003 x261004 x261005 x261006 x261007).bind fun t263 => (some (x4.toList == t263.toList))) else ((impl_RecRead.f k x4).bind fun bt264 => (if bt264.2.2.2.2.2.2.2.2 = true then (if (bt264.1 == x261000 && (bt264.2.1 == x261001 && (bt264.2.2.1 == x261002 && (bt264.2.2.2.1 == x261003 && (bt264.2.2.2.2.1 == x261004 && (bt264.2.2.2.2.2.1 == x261005 && (bt264.2.2.2.2.2.2.1 == x261006 && (bt264.2.2.2.2.2.2.2.1 == x261007)))))))) = true then ((impl_RecOk.f k x261000 x261001 x261002 x261003 x261004 x261005 x261006 x261007).bind fun t274 => (some t274)) else (some false)) else (some false)))
def laws_FnRecBack.f (k : Nat) (l0 : List Int) : Option (Bool) := if (l0.length : Int) > 1048576 then (some true) else ((spec_DrawRecText.f k l0).bind fun bt252 => ((impl_RecText.f k bt252.1 bt252.2.1 bt252.2.2.1 bt252.2.2.2.1 bt252.2.2.2.2.1 bt252.2.2.2.2.2.1 bt252.2.2.2.2.2.2.1 bt252.2.2.2.2.2.2.2).bind fun t261 => ((spec_RecText.f k bt252.1 bt252.2.1 bt252.2.2.1 bt252.2.2.2.1 bt252.2.2.2.2.1 bt252.2.2.2.2.2.1 bt252.2.2.2.2.2.2.1 bt252.2.2.2.2.2.2.2).bind fun t262 => (if t261.toList = t262.toList then (laws_FnRecBack.j0 k t261 (t261.toList == ([] : List UInt8)) bt252.1 bt252.2.1 bt252.2.2.1 bt252.2.2.2.1 bt252.2.2.2.2.1 bt252.2.2.2.2.2.1 bt252.2.2.2.2.2.2.1 bt252.2.2.2.2.2.2.2) else (laws_FnRecBack.j0 k t261 true bt252.1 bt252.2.1 bt252.2.2.1 bt252.2.2.2.1 bt252.2.2.2.2.1 bt252.2.2.2.2.2.1 bt252.2.2.2.2.2.2.1 bt252.2.2.2.2.2.2.2)))))
set_option maxHeartbeats 8000000 in
set_option maxRecDepth 100000 in
theorem laws_FnRecBack.calls (k : Nat) (A0 : Option Addr) (c0 : Nat) (l0 : List Int) (r : Bool) (w : World) (hdoor : Door w) (hr0 : Kd.C (Kd.int .u8) w A0 l0.length l0) (hc0 : l0.length ≤ c0) (h : laws_FnRecBack.f k l0 = some r) (hT_ : Aside0 (r = true)) :
  Calls Tryd.prog 8 #[.slice A0 l0.length c0] w fun e w' => e = .returned (.bool r) ∧ Below w.heap.size w w' := by
 have hu37 := Tryd.underlying37
 have HR0 := az hr0
 have HC0 := az hc0
 clear hr0 hc0
 have HB := az (Below.refl w.heap.size w)
 have HD := az hdoor
 clear hdoor
 have H : (if (l0.length : Int) > 1048576 then (some true) else ((spec_DrawRecText.f k l0).bind fun bt252 => ((impl_RecText.f k bt252.1 bt252.2.1 bt252.2.2.1 bt252.2.2.2.1 bt252.2.2.2.2.1 bt252.2.2.2.2.2.1 bt252.2.2.2.2.2.2.1 bt252.2.2.2.2.2.2.2).bind fun t261 => ((spec_RecText.f k bt252.1 bt252.2.1 bt252.2.2.1 bt252.2.2.2.1 bt252.2.2.2.2.1 bt252.2.2.2.2.2.1 bt252.2.2.2.2.2.2.1 bt252.2.2.2.2.2.2.2).bind fun t262 => (if t261.toList = t262.toList then (laws_FnRecBack.j0 k t261 (t261.toList == ([] : List UInt8)) bt252.1 bt252.2.1 bt252.2.2.1 bt252.2.2.2.1 bt252.2.2.2.2.1 bt252.2.2.2.2.2.1 bt252.2.2.2.2.2.2.1 bt252.2.2.2.2.2.2.2) else (laws_FnRecBack.j0 k t261 true bt252.1 bt252.2.1 bt252.2.2.1 bt252.2.2.2.1 bt252.2.2.2.2.1 bt252.2.2.2.2.2.1 bt252.2.2.2.2.2.2.1 bt252.2.2.2.2.2.2.2)))))) = some r := h
 clear h
 by_cases c2 : (l0.length : Int) > 1048576
 ·rw [if_pos c2] at H
  have c2b0 : decide (1048576 < (l0.length : Int)) = true := decide_eq_true c2
  have c2b1 : decide (1048576 < l0.length) = true := decide_eq_true (by omega)
  clear c2
  obtain rfl := Option.some.inj H
  go_enter Tryd.func8, Tryd.ntmps8
  go_wp2
  go_ret
  exact ⟨by first | rfl | (simp [errW_none, errW_some] <;> rfl) | (simp [*, errW_none, errW_some] <;> rfl), by repeat (first | (with_reducible first | exact HB.out | apply wa | apply wn | apply wd) | exact HB.out)⟩
 ·rw [if_neg c2] at H
  have c2b0 : decide (1048576 < (l0.length : Int)) = false := decide_eq_false c2
  have c2b1 : decide (1048576 < l0.length) = false := decide_eq_false (by omega)
  clear c2
  replace H := Option.bind_eq_some_iff.mp H
  obtain ⟨⟨t252, t253, t254, t255, t256, t257, t258, t259⟩, A30, H⟩ := H
  replace H : ((impl_RecText.f k t252 t253 t254 t255 t256 t257 t258 t259).bind fun t261 => ((spec_RecText.f k t252 t253 t254 t255 t256 t257 t258 t259).bind fun t262 => (if t261.toList = t262.toList then (laws_FnRecBack.j0 k t261 (t261.toList == ([] : List UInt8)) t252 t253 t254 t255 t256 t257 t258 t259) else (laws_FnRecBack.j0 k t261 true t252 t253 t254 t255 t256 t257 t258 t259)))) = some r := H
  have A3 := az A30
  clear A30
  replace H := Option.bind_eq_some_iff.mp H
  obtain ⟨t261, A40, H⟩ := H
  replace H : ((spec_RecText.f k t252 t253 t254 t255 t256 t257 t258 t259).bind fun t262 => (if t261.toList = t262.toList then (laws_FnRecBack.j0 k t261 (t261.toList == ([] : List UInt8)) t252 t253 t254 t255 t256 t257 t258 t259) else (laws_FnRecBack.j0 k t261 true t252 t253 t254 t255 t256 t257 t258 t259))) = some r := H
  have A4 := az A40
  clear A40
  have HC5 := az H
  clear H
  go_enter Tryd.func8, Tryd.ntmps8
  go_upto_region 5 with (first | ((with_reducible refine gate_callee (f := 23) rfl ?_); refine goesL_ (some 11) rfl rfl Tryd.func23 (by kernel_rfl) rfl #[.slice A0 l0.length c0] rfl (by (try simp only [List.map_toArray, List.map_cons, List.map_nil]); first | done | rfl | (simp only [List.length_drop, List.length_take]; rfl)) ?_; (with_reducible refine (spec_DrawRecText.calls k _ _ l0 t252 t253 t254 t255 t256 t257 t258 t259 _ ?side1 ?side2 A3.out).mono ?_); (case side1 => repeat (first | exact HR0.out | (with_reducible refine Kd.C_alloc ?_ _) | (with_reducible refine Kd.C_drewN ?_ _) | (with_reducible refine Kd.C_drew ?_))); (case side2 => exact HC0.out); rintro e w6 ⟨rfl, hb⟩; refine ⟨_, rfl, ?_⟩; replace HB := az (below_step (by repeat (first | (with_reducible first | exact HB.out | apply wa | apply wn | apply wd) | exact HB.out)) hb); (try clear hb); (try clear hb2); (try clear hk); (try clear hi)) | ((with_reducible refine gate_dst (N := 3) rfl ?_); refine box_event ?hg (N := 3) ?hd (cs := #[.int .i64 0, .int .i64 0, .int .i64 0, .int .i64 0, .int .i64 0, .int .i64 0, .int .i64 0, .int .i64 0]) (t := 37) ?hr ?_; (case hd => rfl); (case hg => rfl); (case hr => first | (go_simp; done) | (go_simp; rfl)); intro gb260 hg w7 hbox hb; have BK260 := az (hbox); have GW260 := az ((by rw [hg]; exact (below_size (by repeat (first | (with_reducible first | exact HB.out | apply wa | apply wn | apply wd) | exact HB.out))) : w.heap.size ≤ gb260)); have GE260 := GW260; replace HB := az (below_step (by repeat (first | (with_reducible first | exact HB.out | apply wa | apply wn | apply wd) | exact HB.out)) hb); clear hb hbox hg; obtain ⟨hcz8_0, hcz8_1, hcz8_2, hcz8_3, hcz8_4, hcz8_5, hcz8_6, hcz8_7⟩ := cz8 BK260; obtain ⟨hfz8_0, hfz8_1, hfz8_2, hfz8_3, hfz8_4, hfz8_5, hfz8_6⟩ := fz7 BK260; have hfz8_7 := blk_frozen BK260.out 7) | ((with_reducible refine gate_callee (f := 22) rfl ?_); refine goesL_ (some 13) rfl rfl Tryd.func22 (by kernel_rfl) rfl #[.agg #[.int .i64 t252, .int .i64 t253, .int .i64 t254, .int .i64 t255, .int .i64 t256, .int .i64 t257, .int .i64 t258, .int .i64 t259]] rfl (by (try simp only [List.map_toArray, List.map_cons, List.map_nil]); first | done | rfl | (simp only [List.length_drop, List.length_take]; rfl)) ?_; (with_reducible refine (impl_RecText.calls k t252 t253 t254 t255 t256 t257 t258 t259 t261 _ (HD.out.on (by repeat (first | (with_reducible first | exact HB.out | apply wa | apply wn | apply wd | refine ws ‹_› ?_) | exact HB.out))).tab A4.out).mono ?_); rintro e w9 ⟨rfl, hb⟩; refine ⟨_, rfl, ?_⟩; replace BK260 := az (blk_below (g := gb260) (o := .cells #[.int .i64 t252, .int .i64 t253, .int .i64 t254, .int .i64 t255, .int .i64 t256, .int .i64 t257, .int .i64 t258, .int .i64 t259] 37 (0, 0)) (by (with_reducible repeat (first | apply bn | apply bd | apply ba)); exact p8 BK260) hb); replace HB := az (below_step (by repeat (first | (with_reducible first | exact HB.out | apply wa | apply wn | apply wd | refine ws ‹_› ?_) | exact HB.out)) hb); (try clear hb); (try clear hb2); (try clear hk); (try clear hi)))
  (try simp only [Act.put, List.setIfInBounds_toArray, List.set_cons_zero, List.set_cons_succ])
  go_cut [21] (fun v21 wc => ∃ (kq : Nat) (x21_4 : Bool), v21 = .bool x21_4 ∧ Aside0 (laws_FnRecBack.j0 kq t261 x21_4 t252 t253 t254 t255 t256 t257 t258 t259 = some r) ∧ Aside0 (kq ≤ k) ∧ Aside0 (wc.heap[gb260]? = some (.cells #[.int .i64 t252, .int .i64 t253, .int .i64 t254, .int .i64 t255, .int .i64 t256, .int .i64 t257, .int .i64 t258, .int .i64 t259] 37 (0, 0))) ∧ Aside0 (Below w.heap.size w wc))
  case first =>
   have H := HC5.out
   clear HC5
   replace H := Option.bind_eq_some_iff.mp H
   obtain ⟨t262, A100, H⟩ := H
   replace H : (if t261.toList = t262.toList then (laws_FnRecBack.j0 k t261 (t261.toList == ([] : List UInt8)) t252 t253 t254 t255 t256 t257 t258 t259) else (laws_FnRecBack.j0 k t261 true t252 t253 t254 t255 t256 t257 t258 t259)) = some r := H
   have A10 := az A100
   clear A100
   by_cases c11 : t261.toList = t262.toList
   ·rw [if_pos c11] at H
    have c11b0 : (t261.toList == t262.toList) = true := beq_iff_eq.mpr c11
    have c11b1 : (t261.toList != t262.toList) = false := bne_eq_false_iff_eq.mpr c11
    clear c11
    (first | rw [c11b0] | (simp only [i64_w, i32_w]; rw [c11b0]) | skip)
    have H' := az H
    clear H
    obtain ⟨hcz12_0, hcz12_1, hcz12_2, hcz12_3, hcz12_4, hcz12_5, hcz12_6, hcz12_7⟩ := cz8 BK260
    obtain ⟨hfz12_0, hfz12_1, hfz12_2, hfz12_3, hfz12_4, hfz12_5, hfz12_6, hfz12_7⟩ := fz8 BK260
    go_wp2_with (first | ((with_reducible refine gate_callee (f := 20) rfl ?_); refine goesL_ (some 16) rfl rfl Tryd.func20 (by kernel_rfl) rfl #[.agg #[.int .i64 t252, .int .i64 t253, .int .i64 t254, .int .i64 t255, .int .i64 t256, .int .i64 t257, .int .i64 t258, .int .i64 t259]] rfl (by (try simp only [List.map_toArray, List.map_cons, List.map_nil]); first | done | rfl | (simp only [List.length_drop, List.length_take]; rfl)) ?_; (with_reducible refine (spec_RecText.calls k t252 t253 t254 t255 t256 t257 t258 t259 t262 _ A10.out).mono ?_); rintro e w13 ⟨rfl, hb⟩; refine ⟨_, rfl, ?_⟩; replace BK260 := bb BK260 (fun h => by (with_reducible repeat (first | apply bn | apply bd | apply ba)); exact h) hb; replace HB := az (below_step (by repeat (first | (with_reducible first | exact HB.out | apply wa | apply wn | apply wd | refine ws ‹_› ?_) | exact HB.out)) hb); (try clear hb); (try clear hb2); (try clear hk); (try clear hi)))
    go_meet
    case rel => exact ⟨_, ((t261.toList == ([] : List UInt8))), (by first | rfl | (simp; done) | (simp [*]; done)), H', ⟨by first | omega | exact Nat.le_refl _⟩, ⟨by (with_reducible repeat (first | apply bn | apply bd | apply ba)); exact BK260.out⟩, ⟨by repeat (first | (with_reducible first | exact HB.out | apply wa | apply wn | apply wd | refine ws ‹_› ?_) | exact HB.out)⟩⟩
   ·rw [if_neg c11] at H
    have c11b0 : (t261.toList == t262.toList) = false := beq_eq_false_iff_ne.mpr c11
    have c11b1 : (t261.toList != t262.toList) = true := bne_iff_ne.mpr c11
    (first | rw [c11b0] | (simp only [i64_w, i32_w]; rw [c11b0]) | skip)
    have H' := az H
    clear H
    obtain ⟨hcz14_0, hcz14_1, hcz14_2, hcz14_3, hcz14_4, hcz14_5, hcz14_6, hcz14_7⟩ := cz8 BK260
    obtain ⟨hfz14_0, hfz14_1, hfz14_2, hfz14_3, hfz14_4, hfz14_5, hfz14_6, hfz14_7⟩ := fz8 BK260
    go_wp2_with (first | ((with_reducible refine gate_callee (f := 20) rfl ?_); refine goesL_ (some 16) rfl rfl Tryd.func20 (by kernel_rfl) rfl #[.agg #[.int .i64 t252, .int .i64 t253, .int .i64 t254, .int .i64 t255, .int .i64 t256, .int .i64 t257, .int .i64 t258, .int .i64 t259]] rfl (by (try simp only [List.map_toArray, List.map_cons, List.map_nil]); first | done | rfl | (simp only [List.length_drop, List.length_take]; rfl)) ?_; (with_reducible refine (spec_RecText.calls k t252 t253 t254 t255 t256 t257 t258 t259 t262 _ A10.out).mono ?_); rintro e w15 ⟨rfl, hb⟩; refine ⟨_, rfl, ?_⟩; replace BK260 := bb BK260 (fun h => by (with_reducible repeat (first | apply bn | apply bd | apply ba)); exact h) hb; replace HB := az (below_step (by repeat (first | (with_reducible first | exact HB.out | apply wa | apply wn | apply wd | refine ws ‹_› ?_) | exact HB.out)) hb); (try clear hb); (try clear hb2); (try clear hk); (try clear hi)))
    go_meet
    case rel => exact ⟨_, (true), (by first | rfl | (simp; done) | (simp [*]; done)), H', ⟨by first | omega | exact Nat.le_refl _⟩, ⟨by (with_reducible repeat (first | apply bn | apply bd | apply ba)); exact BK260.out⟩, ⟨by repeat (first | (with_reducible first | exact HB.out | apply wa | apply wn | apply wd | refine ws ‹_› ?_) | exact HB.out)⟩⟩
  case rest =>
   clear HC5;(try clear c1);(try clear c2);(try clear c2b0);(try clear c2b1);(try clear p2);(try clear c8);(try clear c11);(try clear c11b0);(try clear c11b1);(try clear hcz12_0);(try clear hcz12_1);(try clear hcz12_2);(try clear hcz12_3);(try clear hcz12_4);(try clear hcz12_5);(try clear hcz12_6);(try clear hcz12_7);(try clear hcz14_0);(try clear hcz14_1);(try clear hcz14_2);(try clear hcz14_3);(try clear hcz14_4);(try clear hcz14_5);(try clear hcz14_6);(try clear hcz14_7);(try clear hcz8_0);(try clear hcz8_1);(try clear hcz8_2);(try clear hcz8_3);(try clear hcz8_4);(try clear hcz8_5);(try clear hcz8_6);(try clear hcz8_7);(try clear hfz12_0);(try clear hfz12_1);(try clear hfz12_2);(try clear hfz12_3);(try clear hfz12_4);(try clear hfz12_5);(try clear hfz12_6);(try clear hfz12_7);(try clear hfz14_0);(try clear hfz14_1);(try clear hfz14_2);(try clear hfz14_3);(try clear hfz14_4);(try clear hfz14_5);(try clear hfz14_6);(try clear hfz14_7);(try clear hfz8_0);(try clear hfz8_1);(try clear hfz8_2);(try clear hfz8_3);(try clear hfz8_4);(try clear hfz8_5);(try clear hfz8_6);(try clear hfz8_7)
   obtain ⟨kq, x21_4, rfl, HA, HJ4, BK260, HB⟩ := hcut
   cases kq with
   | zero => exact absurd HA.out (by simp [laws_FnRecBack.j0])
   | succ kj4 =>
    have H := HA.out
    clear HA
    simp only [laws_FnRecBack.j0] at H
    by_cases c16 : x21_4 = true
    ·subst c16
     have H1 : ((spec_RecText.f kj4 t252 t253 t254 t255 t256 t257 t258 t259).bind fun t263 => (some (t261.toList == t263.toList))) = some r := by rw [if_pos rfl] at H; exact H
     clear H
     have H := H1
     clear H1
     replace H := Option.bind_eq_some_iff.mp H
     obtain ⟨t263, A170, H⟩ := H
     replace H : (some (t261.toList == t263.toList)) = some r := H
     have A17 := az A170
     clear A170
     obtain rfl := Option.some.inj H
     obtain ⟨hcz18_0, hcz18_1, hcz18_2, hcz18_3, hcz18_4, hcz18_5, hcz18_6, hcz18_7⟩ := cz8 BK260
     obtain ⟨hfz18_0, hfz18_1, hfz18_2, hfz18_3, hfz18_4, hfz18_5, hfz18_6, hfz18_7⟩ := fz8 BK260
     go_wp2_with (first | ((with_reducible refine gate_callee (f := 20) rfl ?_); refine goesL_ (some 24) rfl rfl Tryd.func20 (by kernel_rfl) rfl #[.agg #[.int .i64 t252, .int .i64 t253, .int .i64 t254, .int .i64 t255, .int .i64 t256, .int .i64 t257, .int .i64 t258, .int .i64 t259]] rfl (by (try simp only [List.map_toArray, List.map_cons, List.map_nil]); first | done | rfl | (simp only [List.length_drop, List.length_take]; rfl)) ?_; (with_reducible refine (spec_RecText.calls kj4 t252 t253 t254 t255 t256 t257 t258 t259 t263 _ A17.out).mono ?_); rintro e w19 ⟨rfl, hb⟩; refine ⟨_, rfl, ?_⟩; replace BK260 := bb BK260 (fun h => by (with_reducible repeat (first | apply bn | apply bd | apply ba)); exact h) hb; replace HB := az (below_step (by repeat (first | (with_reducible first | exact HB.out | apply wa | apply wn | apply wd | refine ws ‹_› ?_) | exact HB.out)) hb); (try clear hb); (try clear hb2); (try clear hk); (try clear hi)))
     go_ret
     exact ⟨by first | rfl | (simp [errW_none, errW_some] <;> rfl) | (simp [*, errW_none, errW_some] <;> rfl), by repeat (first | (with_reducible first | exact HB.out | apply wa | apply wn | apply wd | refine ws ‹_› ?_) | exact HB.out)⟩
    ·replace c16 := Bool.eq_false_iff.mpr c16
     subst c16
     have H1 : ((impl_RecRead.f kj4 t261).bind fun bt264 => (if bt264.2.2.2.2.2.2.2.2 = true then (if (bt264.1 == t252 && (bt264.2.1 == t253 && (bt264.2.2.1 == t254 && (bt264.2.2.2.1 == t255 && (bt264.2.2.2.2.1 == t256 && (bt264.2.2.2.2.2.1 == t257 && (bt264.2.2.2.2.2.2.1 == t258 && (bt264.2.2.2.2.2.2.2.1 == t259)))))))) = true then ((impl_RecOk.f kj4 t252 t253 t254 t255 t256 t257 t258 t259).bind fun t274 => (some t274)) else (some false)) else (some false))) = some r := by rw [if_neg (show ¬ (false = true) by decide)] at H; exact H
     clear H
     have H := H1
     clear H1
     replace H := Option.bind_eq_some_iff.mp H
     obtain ⟨⟨t264, t265, t266, t267, t268, t269, t270, t271, t272⟩, A200, H⟩ := H
     replace H : (if t272 = true then (if (t264 == t252 && (t265 == t253 && (t266 == t254 && (t267 == t255 && (t268 == t256 && (t269 == t257 && (t270 == t258 && (t271 == t259)))))))) = true then ((impl_RecOk.f kj4 t252 t253 t254 t255 t256 t257 t258 t259).bind fun t274 => (some t274)) else (some false)) else (some false)) = some r := H
     have A20 := az A200
     clear A200
     by_cases c21 : t272 = true
     ·subst c21
      have H1 : (if (t264 == t252 && (t265 == t253 && (t266 == t254 && (t267 == t255 && (t268 == t256 && (t269 == t257 && (t270 == t258 && (t271 == t259)))))))) = true then ((impl_RecOk.f kj4 t252 t253 t254 t255 t256 t257 t258 t259).bind fun t274 => (some t274)) else (some false)) = some r := by rw [if_pos rfl] at H; exact H
      clear H
      have H := H1
      clear H1
      by_cases c22 : (t264 == t252 && (t265 == t253 && (t266 == t254 && (t267 == t255 && (t268 == t256 && (t269 == t257 && (t270 == t258 && (t271 == t259)))))))) = true
      ·rw [if_pos c22] at H
       have c22b0 : (t264 == t252 && (t265 == t253 && (t266 == t254 && (t267 == t255 && (t268 == t256 && (t269 == t257 && (t270 == t258 && (t271 == t259)))))))) = true := c22
       (try (have c22b1 : decide (t264 = t252 && (t265 == t253 && (t266 == t254 && (t267 == t255 && (t268 == t256 && (t269 == t257 && (t270 == t258 && (t271 == t259)))))))) = true := by simpa using c22))
       (try (have c22b2 : (t264 == t252 && (t265 == t253 && (t266 == t254 && (t267 == t255 && (t268 == t256 && (t269 == t257 && (t270 == t258 && (t271 == t259)))))))) = true := by simpa using c22))
       clear c22
       replace H := Option.bind_eq_some_iff.mp H
       obtain ⟨t274, A230, H⟩ := H
       replace H : (some t274) = some r := H
       have A23 := az A230
       clear A230
       obtain rfl := Option.some.inj H
       go_wp2_with (first | ((with_reducible refine gate_callee (f := 25) rfl ?_); refine goesL_ (some 28) rfl rfl Tryd.func25 (by kernel_rfl) rfl #[.string t261] rfl (by (try simp only [List.map_toArray, List.map_cons, List.map_nil]); first | done | rfl | (simp only [List.length_drop, List.length_take]; rfl)) ?_; (with_reducible refine (impl_RecRead.calls kj4 t261 t264 t265 t266 t267 t268 t269 t270 t271 true _ (HD.out.on (by repeat (first | (with_reducible first | exact HB.out | apply wa | apply wn | apply wd | refine ws ‹_› ?_) | exact HB.out))) A20.out).mono ?_); rintro e w24 ⟨rfl, hb⟩; refine ⟨_, rfl, ?_⟩; replace BK260 := bb BK260 (fun h => by (with_reducible repeat (first | apply bn | apply bd | apply ba)); exact h) hb; replace HB := az (below_step (by repeat (first | (with_reducible first | exact HB.out | apply wa | apply wn | apply wd | refine ws ‹_› ?_) | exact HB.out)) hb); (try clear hb); (try clear hb2); (try clear hk); (try clear hi)) | ((with_reducible refine gate_dst (N := 5) rfl ?_); refine box_event ?hg (N := 5) ?hd (cs := #[.int .i64 0, .int .i64 0, .int .i64 0, .int .i64 0, .int .i64 0, .int .i64 0, .int .i64 0, .int .i64 0]) (t := 37) ?hr ?_; (case hd => rfl); (case hg => rfl); (case hr => first | (go_simp; done) | (go_simp; rfl)); intro gb273 hg w25 hbox hb; have BK273 := az (hbox); have GW273 := az ((by rw [hg]; exact (below_size (by repeat (first | (with_reducible first | exact HB.out | apply wa | apply wn | apply wd | refine ws ‹_› ?_) | exact HB.out))) : w.heap.size ≤ gb273)); have GE273 := GW273; replace HB := az (below_step (by repeat (first | (with_reducible first | exact HB.out | apply wa | apply wn | apply wd | refine ws ‹_› ?_) | exact HB.out)) hb); obtain ⟨NB260_273, NB273_260⟩ := nb BK260 hg (fun h => by (with_reducible repeat (first | apply bn | apply bd | apply ba)); exact h); replace BK260 := bb BK260 (fun h => by (with_reducible repeat (first | apply bn | apply bd | apply ba)); exact h) hb; clear hb hbox hg; have hnb26 := NB273_260.out; have hnc26 := NB260_273.out; obtain ⟨hcz27_0, hcz27_1, hcz27_2, hcz27_3, hcz27_4, hcz27_5, hcz27_6, hcz27_7⟩ := cz8 BK273; obtain ⟨hfz27_0, hfz27_1, hfz27_2, hfz27_3, hfz27_4, hfz27_5, hfz27_6, hfz27_7⟩ := fz8 BK273; obtain ⟨hcz28_0, hcz28_1, hcz28_2, hcz28_3, hcz28_4, hcz28_5, hcz28_6, hcz28_7⟩ := cz8 BK260; obtain ⟨hfz28_0, hfz28_1, hfz28_2, hfz28_3, hfz28_4, hfz28_5, hfz28_6⟩ := fz7 BK260; have hfz28_7 := blk_frozen BK260.out 7) | (go_at_call 26; (with_reducible refine (impl_RecOk.calls kj4 t252 t253 t254 t255 t256 t257 t258 t259 t274 _ A23.out).mono ?_); rintro e w29 ⟨rfl, hb⟩; replace BK260 := az (blk_below (g := gb260) (o := .cells #[.int .i64 t252, .int .i64 t253, .int .i64 t254, .int .i64 t255, .int .i64 t256, .int .i64 t257, .int .i64 t258, .int .i64 t259] 37 (0, 0)) (by (repeat (first | (with_reducible first | apply bn | apply bd | apply ba) | apply bf NB260_273)); exact BK260.out) hb); replace BK273 := az (blk_below (g := gb273) (o := .cells #[.int .i64 t264, .int .i64 t265, .int .i64 t266, .int .i64 t267, .int .i64 t268, .int .i64 t269, .int .i64 t270, .int .i64 t271] 37 (0, 0)) (by (with_reducible repeat (first | apply bn | apply bd | apply ba)); exact p8 BK273) hb); replace HB := az (below_step (by repeat (first | (with_reducible first | exact HB.out | apply wa | apply wn | apply wd | refine ws ‹_› ?_) | exact HB.out)) hb); (try clear hb); (try clear hb2); (try clear hk); (try clear hi)))
       go_ret
       exact ⟨by first | rfl | (simp [errW_none, errW_some] <;> rfl) | (simp [*, errW_none, errW_some] <;> rfl), by repeat (first | (with_reducible first | exact HB.out | apply wa | apply wn | apply wd | refine ws ‹_› ?_) | exact HB.out)⟩
      ·rw [if_neg c22] at H
       have c22b0 : (t264 == t252 && (t265 == t253 && (t266 == t254 && (t267 == t255 && (t268 == t256 && (t269 == t257 && (t270 == t258 && (t271 == t259)))))))) = false := by simpa using c22
       (try (have c22b1 : decide (t264 = t252 && (t265 == t253 && (t266 == t254 && (t267 == t255 && (t268 == t256 && (t269 == t257 && (t270 == t258 && (t271 == t259)))))))) = false := by simpa using c22))
       (try (have c22b2 : (t264 == t252 && (t265 == t253 && (t266 == t254 && (t267 == t255 && (t268 == t256 && (t269 == t257 && (t270 == t258 && (t271 == t259)))))))) = false := by simpa using c22))
       (try (have c22b3 : ¬ (t264 = t252 && (t265 == t253 && (t266 == t254 && (t267 == t255 && (t268 == t256 && (t269 == t257 && (t270 == t258 && (t271 == t259)))))))) := by simpa using c22))
       clear c22
       obtain rfl := Option.some.inj H
       exact absurd hT_.out (by simp)
     ·replace c21 := Bool.eq_false_iff.mpr c21
      subst c21
      have H1 : (some false) = some r := by rw [if_neg (show ¬ (false = true) by decide)] at H; exact H
      clear H
      have H := H1
      clear H1
      obtain rfl := Option.some.inj H
      exact absurd hT_.out (by simp)
end Go.Proofs.YtajdjoggflagdaaDoor.Pr
