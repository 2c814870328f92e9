-- Laid by a program (extract.py) out of this seat's translation: contracts of a few functions, a text a function; Lean checks them.
import Derived.Test.YtajdjoggflagdaaDoorPrK
import Derived.Test.YtajdjoggflagdaaDoorPTp
import Derived.Test.YtajdjoggflagdaaDoorPrDPT
import Derived.Test.YtajdjoggflagdaaDoorPrDPO
import Derived.Test.YtajdjoggflagdaaDoorSq
namespace Go.Proofs.YtajdjoggflagdaaDoor.Pr
open Go.RowKit Go.Proofs.YtajdjoggflagdaaDoorW.PrintWords Go.Proofs.YtajdjoggflagdaaDoorW.PrintLast Go.Proofs.YtajdjoggflagdaaDoorW.PrintMore
attribute [local go_sem] max2_int min2_int max_two min_two max_three min_three max_four min_four
set_option linter.unusedVariables false
set_option linter.unusedSimpArgs false
/-! ### laws_FnPageText: function 5 -/
mutual
def laws_FnPageText.j0 : Nat → List Int → List Int → Bool → Option (Bool)
 | 0, _, _, _ => none
 | k + 1, x0, x1, x17 => if x17 = true then (some true) else ((spec_DrawPageText.f k x0).bind fun bt259 => ((impl_PageText.f k bt259.1 bt259.2.1 bt259.2.2).bind fun t265 => ((spec_DrawPageOk.f k x1).bind fun bt266 => ((impl_PageText.f k bt266.1 bt266.2.1 bt266.2.2).bind fun t272 => ((spec_PageText.f k bt259.1 bt259.2.1 bt259.2.2).bind fun t273 => (if t265.toList = t273.toList then (if t265.toList = ([] : List UInt8) then (laws_FnPageText.j1 k t265 t272 true bt259.1 bt259.2.1 bt259.2.2 bt266.1 bt266.2.1 bt266.2.2) else (laws_FnPageText.j1 k t265 t272 (t272.toList == ([] : List UInt8)) bt259.1 bt259.2.1 bt259.2.2 bt266.1 bt266.2.1 bt266.2.2)) else (laws_FnPageText.j1 k t265 t272 true bt259.1 bt259.2.1 bt259.2.2 bt266.1 bt266.2.1 bt266.2.2)))))))
def laws_FnPageText.j1 : Nat → ByteArray → ByteArray → Bool → Int → Int → List Int → Int → Int → List Int → Option (Bool)
 | 0, _, _, _, _, _, _, _, _, _ => none
 | k + 1, x6, x8, x37, x265000, x265001, x265002, x272000, x272001, x272002 => if x37 = true then ((spec_PageText.f k x265000 x265001 x265002).bind fun t274 => (some (x6.toList == t274.toList))) else ((laws_ltHas.f k x265000 x265001 x265002 x272000 x272001 x272002).bind fun t276 => (if ((x6.toList == x8.toList) == t276) = true then ((impl_PageText.f k 0 x265001 x265002).bind fun t277 => (if t277.toList = x6.toList then (some ((x6.size : Int) == 7)) else (some false))) else (some false)))
end
def laws_FnPageText.f (k : Nat) (l0 : List Int) (l1 : List Int) : Option (Bool) := if (l0.length : Int) > 1048576 then (laws_FnPageText.j0 k l0 l1 true) else (laws_FnPageText.j0 k l0 l1 (decide ((l1.length : Int) > 1048576)))
set_option maxHeartbeats 8000000 in
set_option maxRecDepth 100000 in
theorem laws_FnPageText.calls (k : Nat) (A0 : Option Addr) (c0 : Nat) (l0 : List Int) (A1 : Option Addr) (c1 : Nat) (l1 : List Int) (r : Bool) (w : World) (hr0 : Kd.C (Kd.int .u8) w A0 l0.length l0) (hc0 : l0.length ≤ c0) (hr1 : Kd.C (Kd.int .u8) w A1 l1.length l1) (hc1 : l1.length ≤ c1) (h : laws_FnPageText.f k l0 l1 = some r) (hT_ : Aside0 (r = true)) :
  Calls Tryd.prog 5 #[.slice A0 l0.length c0, .slice A1 l1.length c1] w fun e w' => e = .returned (.bool r) ∧ Below w.heap.size w w' := by
 have hu25 := Tryd.underlying25
 have HR0 := az hr0
 have HC0 := az hc0
 clear hr0 hc0
 have HR1 := az hr1
 have HC1 := az hc1
 clear hr1 hc1
 have HB := az (Below.refl w.heap.size w)
 have H : (if (l0.length : Int) > 1048576 then (laws_FnPageText.j0 k l0 l1 true) else (laws_FnPageText.j0 k l0 l1 (decide ((l1.length : Int) > 1048576)))) = some r := h
 clear h
 have HC3 := az H
 clear H
 go_enter Tryd.func5, Tryd.ntmps5
 go_upto_region 1 with (fail)
 go_cut [17] (fun v17 wc => ∃ (kq : Nat) (x17_2 : Bool), v17 = .bool x17_2 ∧ Aside0 (laws_FnPageText.j0 kq l0 l1 x17_2 = some r) ∧ Aside0 (kq ≤ k) ∧ Aside0 (Below w.heap.size w wc))
 case first =>
  have H := HC3.out
  clear HC3
  by_cases c4 : (l0.length : Int) > 1048576
  ·rw [if_pos c4] at H
   have c4b0 : decide (1048576 < (l0.length : Int)) = true := decide_eq_true c4
   have c4b1 : decide (1048576 < l0.length) = true := decide_eq_true (by omega)
   clear c4
   (first | rw [c4b0] | (simp only [i64_w, i32_w]; rw [c4b0]) | skip)
   have H' := az H
   clear H
   go_wp2
   go_meet
   case rel => exact ⟨_, (true), (by first | rfl | (simp; done) | (simp [*]; done)), H', ⟨by first | omega | exact Nat.le_refl _⟩, ⟨by repeat (first | (with_reducible first | exact HB.out | apply wa | apply wn | apply wd) | exact HB.out)⟩⟩
  ·rw [if_neg c4] at H
   have c4b0 : decide (1048576 < (l0.length : Int)) = false := decide_eq_false c4
   have c4b1 : decide (1048576 < l0.length) = false := decide_eq_false (by omega)
   clear c4
   (first | rw [c4b0] | (simp only [i64_w, i32_w]; rw [c4b0]) | skip)
   have H' := az H
   clear H
   go_wp2
   go_meet
   case rel => exact ⟨_, (decide ((l1.length : Int) > 1048576)), (by first | rfl | (simp; done) | (simp [*]; done)), H', ⟨by first | omega | exact Nat.le_refl _⟩, ⟨by repeat (first | (with_reducible first | exact HB.out | apply wa | apply wn | apply wd) | exact HB.out)⟩⟩
 case rest =>
  clear HC3;(try clear c1);(try clear p2);(try clear c4);(try clear c4b0);(try clear c4b1)
  obtain ⟨kq, x17_2, rfl, HA, HJ2, HB⟩ := hcut
  cases kq with
  | zero => exact absurd HA.out (by simp [laws_FnPageText.j0])
  | succ kj2 =>
   have H := HA.out
   clear HA
   simp only [laws_FnPageText.j0] at H
   by_cases c5 : x17_2 = true
   ·subst c5
    have H1 : (some true) = some r := by rw [if_pos rfl] at H; exact H
    clear H
    have H := H1
    clear H1
    obtain rfl := Option.some.inj H
    go_wp2
    go_ret
    exact ⟨by first | rfl | (simp [errW_none, errW_some] <;> rfl) | (simp [*, errW_none, errW_some] <;> rfl), by repeat (first | (with_reducible first | exact HB.out | apply wa | apply wn | apply wd) | exact HB.out)⟩
   ·replace c5 := Bool.eq_false_iff.mpr c5
    subst c5
    have H1 : ((spec_DrawPageText.f kj2 l0).bind fun bt259 => ((impl_PageText.f kj2 bt259.1 bt259.2.1 bt259.2.2).bind fun t265 => ((spec_DrawPageOk.f kj2 l1).bind fun bt266 => ((impl_PageText.f kj2 bt266.1 bt266.2.1 bt266.2.2).bind fun t272 => ((spec_PageText.f kj2 bt259.1 bt259.2.1 bt259.2.2).bind fun t273 => (if t265.toList = t273.toList then (if t265.toList = ([] : List UInt8) then (laws_FnPageText.j1 kj2 t265 t272 true bt259.1 bt259.2.1 bt259.2.2 bt266.1 bt266.2.1 bt266.2.2) else (laws_FnPageText.j1 kj2 t265 t272 (t272.toList == ([] : List UInt8)) bt259.1 bt259.2.1 bt259.2.2 bt266.1 bt266.2.1 bt266.2.2)) else (laws_FnPageText.j1 kj2 t265 t272 true bt259.1 bt259.2.1 bt259.2.2 bt266.1 bt266.2.1 bt266.2.2))))))) = some r := by rw [if_neg (show ¬ (false = true) by decide)] at H; exact H
    clear H
    have H := H1
    clear H1
    replace H := Option.bind_eq_some_iff.mp H
    obtain ⟨⟨t259, t260, t261⟩, A60, H⟩ := H
    replace H : ((impl_PageText.f kj2 t259 t260 t261).bind fun t265 => ((spec_DrawPageOk.f kj2 l1).bind fun bt266 => ((impl_PageText.f kj2 bt266.1 bt266.2.1 bt266.2.2).bind fun t272 => ((spec_PageText.f kj2 t259 t260 t261).bind fun t273 => (if t265.toList = t273.toList then (if t265.toList = ([] : List UInt8) then (laws_FnPageText.j1 kj2 t265 t272 true t259 t260 t261 bt266.1 bt266.2.1 bt266.2.2) else (laws_FnPageText.j1 kj2 t265 t272 (t272.toList == ([] : List UInt8)) t259 t260 t261 bt266.1 bt266.2.1 bt266.2.2)) else (laws_FnPageText.j1 kj2 t265 t272 true t259 t260 t261 bt266.1 bt266.2.1 bt266.2.2)))))) = some r := H
    have A6 := az A60
    clear A60
    replace H := Option.bind_eq_some_iff.mp H
    obtain ⟨t265, A70, H⟩ := H
    replace H : ((spec_DrawPageOk.f kj2 l1).bind fun bt266 => ((impl_PageText.f kj2 bt266.1 bt266.2.1 bt266.2.2).bind fun t272 => ((spec_PageText.f kj2 t259 t260 t261).bind fun t273 => (if t265.toList = t273.toList then (if t265.toList = ([] : List UInt8) then (laws_FnPageText.j1 kj2 t265 t272 true t259 t260 t261 bt266.1 bt266.2.1 bt266.2.2) else (laws_FnPageText.j1 kj2 t265 t272 (t272.toList == ([] : List UInt8)) t259 t260 t261 bt266.1 bt266.2.1 bt266.2.2)) else (laws_FnPageText.j1 kj2 t265 t272 true t259 t260 t261 bt266.1 bt266.2.1 bt266.2.2))))) = some r := H
    have A7 := az A70
    clear A70
    replace H := Option.bind_eq_some_iff.mp H
    obtain ⟨⟨t266, t267, t268⟩, A80, H⟩ := H
    replace H : ((impl_PageText.f kj2 t266 t267 t268).bind fun t272 => ((spec_PageText.f kj2 t259 t260 t261).bind fun t273 => (if t265.toList = t273.toList then (if t265.toList = ([] : List UInt8) then (laws_FnPageText.j1 kj2 t265 t272 true t259 t260 t261 t266 t267 t268) else (laws_FnPageText.j1 kj2 t265 t272 (t272.toList == ([] : List UInt8)) t259 t260 t261 t266 t267 t268)) else (laws_FnPageText.j1 kj2 t265 t272 true t259 t260 t261 t266 t267 t268)))) = some r := H
    have A8 := az A80
    clear A80
    replace H := Option.bind_eq_some_iff.mp H
    obtain ⟨t272, A90, H⟩ := H
    replace H : ((spec_PageText.f kj2 t259 t260 t261).bind fun t273 => (if t265.toList = t273.toList then (if t265.toList = ([] : List UInt8) then (laws_FnPageText.j1 kj2 t265 t272 true t259 t260 t261 t266 t267 t268) else (laws_FnPageText.j1 kj2 t265 t272 (t272.toList == ([] : List UInt8)) t259 t260 t261 t266 t267 t268)) else (laws_FnPageText.j1 kj2 t265 t272 true t259 t260 t261 t266 t267 t268))) = some r := H
    have A9 := az A90
    clear A90
    have HC10 := az H
    clear H
    go_upto_region 7 with (first | ((with_reducible refine gate_callee (f := 12) rfl ?_); refine goesL_ (some 19) rfl rfl Tryd.func12 (by kernel_rfl) rfl #[.slice A0 l0.length c0] rfl (by (try simp only [List.map_toArray, List.map_cons, List.map_nil]); first | done | rfl | (simp only [List.length_drop, List.length_take]; rfl)) ?_; (with_reducible refine (spec_DrawPageText.calls kj2 _ _ l0 t259 t260 t261 _ ?side1 ?side2 A6.out).mono ?_); (case side1 => repeat (first | exact (Kd.C_below HR0.out HB.out) | (with_reducible refine Kd.C_alloc ?_ _) | (with_reducible refine Kd.C_drewN ?_ _) | (with_reducible refine Kd.C_drew ?_))); (case side2 => exact HC0.out); rintro e w11 ⟨v262, rfl, ho0, hb⟩; refine ⟨_, rfl, ?_⟩; have HO263 := az (Kd.Q_lower ho0 (below_size (by repeat (first | (with_reducible first | exact HB.out | apply wa | apply wn | apply wd) | exact HB.out)))); replace HB := az (below_step (by repeat (first | (with_reducible first | exact HB.out | apply wa | apply wn | apply wd) | exact HB.out)) hb); (try clear hb); (try clear hb2); (try clear hk); (try clear hi); (try clear ho0)) | ((with_reducible refine gate_dst (N := 5) rfl ?_); (try (refine gate_guard (by rfl) ?_; dsimp only)); refine box_event ?hg (N := 5) ?hd (cs := #[.int .i64 0, .int .i64 0, .slice none 0 0]) (t := 25) ?hr ?_; (case hd => rfl); (case hg => rfl); (case hr => first | (go_simp; done) | (go_simp; rfl)); intro gb264 hg w12 hbox hb; replace HO263 := az (Kd.Q_below (by (with_reducible repeat (first | apply Kd.Q_alloc | apply Kd.Q_drewN | apply Kd.Q_drew)); exact HO263.out) hb); have BK264 := az (hbox); have GW264 := az ((by rw [hg]; exact (below_size (by repeat (first | (with_reducible first | exact HB.out | apply wa | apply wn | apply wd) | exact HB.out))) : w.heap.size ≤ gb264)); have GE264 := GW264; replace HB := az (below_step (by repeat (first | (with_reducible first | exact HB.out | apply wa | apply wn | apply wd) | exact HB.out)) hb); clear hb hbox hg; obtain ⟨hcz13_0, hcz13_1, hcz13_2⟩ := cz3 BK264; obtain ⟨hfz13_0, hfz13_1, hfz13_2⟩ := fz3 BK264; obtain ⟨Ao14, co14, eo14, _⟩ := Kd.Q_slice HO263.out; subst eo14) | ((with_reducible refine gate_callee (f := 13) rfl ?_); refine goesL_ (some 21) rfl rfl Tryd.func13 (by kernel_rfl) rfl #[.agg #[.int .i64 t259, .int .i64 t260, .slice Ao14 t261.length co14]] rfl (by (try simp only [List.map_toArray, List.map_cons, List.map_nil]); first | done | rfl | (simp only [List.length_drop, List.length_take]; rfl)) ?_; (with_reducible refine (impl_PageText.calls kj2 t259 t260 _ _ t261 t265 _ ?side1 ?side2 A7.out).mono ?_); (case side1 => refine (Kd.Q_reads' (e := 3) (base := w.heap.size) (ok := fun k_ => True) (n := t261.length) (c := co14) ?_).2.2; exact (by (with_reducible repeat (first | apply Kd.Q_alloc | apply Kd.Q_drewN | apply Kd.Q_drew)); exact (fQ3 HO263.out BK264.out (by decide)))); (case side2 => exact (Kd.Q_reads' HO263.out).2.1); rintro e w15 ⟨rfl, hb⟩; refine ⟨_, rfl, ?_⟩; replace HO263 := az (Kd.Q_below (by (with_reducible repeat (first | apply Kd.Q_alloc | apply Kd.Q_drewN | apply Kd.Q_drew)); exact (fQ3 HO263.out BK264.out (by decide))) hb); replace BK264 := az (blk_below (g := gb264) (o := .cells #[.int .i64 t259, .int .i64 t260, .slice Ao14 t261.length co14] 25 (0, 0)) (by (with_reducible repeat (first | apply bn | apply bd | apply ba)); exact p3 BK264) hb); replace HB := az (below_step (by repeat (first | (with_reducible first | exact HB.out | apply wa | apply wn | apply wd | refine ws ‹_› ?_) | exact HB.out)) hb); (try clear hb); (try clear hb2); (try clear hk); (try clear hi)) | ((with_reducible refine gate_callee (f := 18) rfl ?_); refine goesL_ (some 23) rfl rfl Tryd.func18 (by kernel_rfl) rfl #[.slice A1 l1.length c1] rfl (by (try simp only [List.map_toArray, List.map_cons, List.map_nil]); first | done | rfl | (simp only [List.length_drop, List.length_take]; rfl)) ?_; (with_reducible refine (spec_DrawPageOk.calls kj2 _ _ l1 t266 t267 t268 _ ?side1 ?side2 A8.out).mono ?_); (case side1 => repeat (first | exact (Kd.C_below HR1.out HB.out) | (with_reducible refine Kd.C_alloc ?_ _) | (with_reducible refine Kd.C_drewN ?_ _) | (with_reducible refine Kd.C_drew ?_))); (case side2 => exact HC1.out); rintro e w16 ⟨v269, rfl, ho0, hb⟩; refine ⟨_, rfl, ?_⟩; have HO270 := az (Kd.Q_lower (Kd.Q_new' ho0 (Kd.Q_lt (by (with_reducible repeat (first | apply Kd.Q_alloc | apply Kd.Q_drewN | apply Kd.Q_drew)); exact HO263.out))) (below_size (by repeat (first | (with_reducible first | exact HB.out | apply wa | apply wn | apply wd | refine ws ‹_› ?_) | exact HB.out)))); replace HO263 := az (Kd.Q_elder' (by (with_reducible repeat (first | apply Kd.Q_alloc | apply Kd.Q_drewN | apply Kd.Q_drew)); exact HO263.out) (Kd.Q_base ho0) hb); replace BK264 := bb BK264 (fun h => by (with_reducible repeat (first | apply bn | apply bd | apply ba)); exact h) hb; replace HB := az (below_step (by repeat (first | (with_reducible first | exact HB.out | apply wa | apply wn | apply wd | refine ws ‹_› ?_) | exact HB.out)) hb); (try clear hb); (try clear hb2); (try clear hk); (try clear hi); (try clear ho0)) | ((with_reducible refine gate_dst (N := 7) rfl ?_); (try (refine gate_guard (by rfl) ?_; dsimp only)); refine box_event ?hg (N := 7) ?hd (cs := #[.int .i64 0, .int .i64 0, .slice none 0 0]) (t := 25) ?hr ?_; (case hd => rfl); (case hg => rfl); (case hr => first | (go_simp; done) | (go_simp; rfl)); intro gb271 hg w17 hbox hb; replace HO263 := az (Kd.Q_below (by (with_reducible repeat (first | apply Kd.Q_alloc | apply Kd.Q_drewN | apply Kd.Q_drew)); exact HO263.out) hb); replace HO270 := az (Kd.Q_below (by (with_reducible repeat (first | apply Kd.Q_alloc | apply Kd.Q_drewN | apply Kd.Q_drew)); exact HO270.out) hb); have BK271 := az (hbox); have GW271 := az ((by rw [hg]; exact (below_size (by repeat (first | (with_reducible first | exact HB.out | apply wa | apply wn | apply wd | refine ws ‹_› ?_) | exact HB.out))) : w.heap.size ≤ gb271)); have GE271 := GW271; replace HB := az (below_step (by repeat (first | (with_reducible first | exact HB.out | apply wa | apply wn | apply wd | refine ws ‹_› ?_) | exact HB.out)) hb); obtain ⟨NB264_271, NB271_264⟩ := nb BK264 hg (fun h => by (with_reducible repeat (first | apply bn | apply bd | apply ba)); exact h); replace BK264 := bb BK264 (fun h => by (with_reducible repeat (first | apply bn | apply bd | apply ba)); exact h) hb; clear hb hbox hg; have hnb18 := NB271_264.out; have hnc18 := NB264_271.out; obtain ⟨hcz19_0, hcz19_1, hcz19_2⟩ := cz3 BK271; obtain ⟨hfz19_0, hfz19_1, hfz19_2⟩ := fz3 BK271; obtain ⟨Ao20, co20, eo20, _⟩ := Kd.Q_slice HO270.out; subst eo20) | ((with_reducible refine gate_callee (f := 13) rfl ?_); refine goesL_ (some 25) rfl rfl Tryd.func13 (by kernel_rfl) rfl #[.agg #[.int .i64 t266, .int .i64 t267, .slice Ao20 t268.length co20]] rfl (by (try simp only [List.map_toArray, List.map_cons, List.map_nil]); first | done | rfl | (simp only [List.length_drop, List.length_take]; rfl)) ?_; (with_reducible refine (impl_PageText.calls kj2 t266 t267 _ _ t268 t272 _ ?side1 ?side2 A9.out).mono ?_); (case side1 => refine (Kd.Q_reads' (e := 3) (base := w.heap.size) (ok := fun k_ => (True ∧ some k_ ≠ (.slice Ao14 t261.length co14 : Value).ownBlock)) (n := t268.length) (c := co20) ?_).2.2; exact (by (with_reducible repeat (first | apply Kd.Q_alloc | apply Kd.Q_drewN | apply Kd.Q_drew)); exact (fQ3 HO270.out BK271.out (by decide)))); (case side2 => exact (Kd.Q_reads' HO270.out).2.1); rintro e w21 ⟨rfl, hb⟩; refine ⟨_, rfl, ?_⟩; replace HO263 := az (Kd.Q_below (by (with_reducible repeat (first | apply Kd.Q_alloc | apply Kd.Q_drewN | apply Kd.Q_drew)); exact (fQ3 HO263.out BK271.out (by decide))) hb); replace HO270 := az (Kd.Q_below (by (with_reducible repeat (first | apply Kd.Q_alloc | apply Kd.Q_drewN | apply Kd.Q_drew)); exact (fQ3 HO270.out BK271.out (by decide))) hb); replace BK264 := az (blk_below (g := gb264) (o := .cells #[.int .i64 t259, .int .i64 t260, .slice Ao14 t261.length co14] 25 (0, 0)) (by (repeat (first | (with_reducible first | apply bn | apply bd | apply ba) | apply bf NB264_271)); exact BK264.out) hb); replace BK271 := az (blk_below (g := gb271) (o := .cells #[.int .i64 t266, .int .i64 t267, .slice Ao20 t268.length co20] 25 (0, 0)) (by (with_reducible repeat (first | apply bn | apply bd | apply ba)); exact p3 BK271) hb); replace HB := az (below_step (by repeat (first | (with_reducible first | exact HB.out | apply wa | apply wn | apply wd | refine ws ‹_› ?_) | exact HB.out)) hb); (try clear hb); (try clear hb2); (try clear hk); (try clear hi)))
    (try simp only [Act.put, List.setIfInBounds_toArray, List.set_cons_zero, List.set_cons_succ])
    go_cut [37] (fun v37 wc => ∃ (kq : Nat) (x37_9 : Bool), v37 = .bool x37_9 ∧ Aside0 (laws_FnPageText.j1 kq t265 t272 x37_9 t259 t260 t261 t266 t267 t268 = some r) ∧ Aside0 (kq ≤ kj2) ∧ Aside0 (Kd.Q (Kd.int .i64) 3 wc w.heap.size (fun k_ => some k_ ≠ ((.slice Ao20 t268.length co20) : Value).ownBlock) (.slice Ao14 t261.length co14) t261) ∧ Aside0 (Kd.Q (Kd.int .i64) 3 wc w.heap.size (fun k_ => some k_ ≠ ((.slice Ao14 t261.length co14) : Value).ownBlock) (.slice Ao20 t268.length co20) t268) ∧ Aside0 (wc.heap[gb264]? = some (.cells #[.int .i64 t259, .int .i64 t260, (.slice Ao14 t261.length co14)] 25 (0, 0))) ∧ Aside0 (wc.heap[gb271]? = some (.cells #[.int .i64 t266, .int .i64 t267, (.slice Ao20 t268.length co20)] 25 (0, 0))) ∧ Aside0 (Below w.heap.size w wc))
    case first =>
     have H := HC10.out
     clear HC10
     replace H := Option.bind_eq_some_iff.mp H
     obtain ⟨t273, A220, H⟩ := H
     replace H : (if t265.toList = t273.toList then (if t265.toList = ([] : List UInt8) then (laws_FnPageText.j1 kj2 t265 t272 true t259 t260 t261 t266 t267 t268) else (laws_FnPageText.j1 kj2 t265 t272 (t272.toList == ([] : List UInt8)) t259 t260 t261 t266 t267 t268)) else (laws_FnPageText.j1 kj2 t265 t272 true t259 t260 t261 t266 t267 t268)) = some r := H
     have A22 := az A220
     clear A220
     by_cases c23 : t265.toList = t273.toList
     ·rw [if_pos c23] at H
      have c23b0 : (t265.toList == t273.toList) = true := beq_iff_eq.mpr c23
      have c23b1 : (t265.toList != t273.toList) = false := bne_eq_false_iff_eq.mpr c23
      clear c23
      (first | rw [c23b0] | (simp only [i64_w, i32_w]; rw [c23b0]) | skip)
      by_cases c24 : t265.toList = ([] : List UInt8)
      ·rw [if_pos c24] at H
       have c24b0 : (t265.toList == ([] : List UInt8)) = true := beq_iff_eq.mpr c24
       have c24b1 : (t265.toList != ([] : List UInt8)) = false := bne_eq_false_iff_eq.mpr c24
       clear c24
       have H' := az H
       clear H
       have hnb25 := NB264_271.out
       have hnc25 := NB271_264.out
       obtain ⟨hcz26_0, hcz26_1, hcz26_2⟩ := cz3 BK264
       obtain ⟨hfz26_0, hfz26_1, hfz26_2⟩ := fz3 BK264
       go_wp2_with (first | ((with_reducible refine gate_callee (f := 14) rfl ?_); refine goesL_ (some 28) rfl rfl Tryd.func14 (by kernel_rfl) rfl #[.agg #[.int .i64 t259, .int .i64 t260, .slice Ao14 t261.length co14]] rfl (by (try simp only [List.map_toArray, List.map_cons, List.map_nil]); first | done | rfl | (simp only [List.length_drop, List.length_take]; rfl)) ?_; (with_reducible refine (spec_PageText.calls kj2 t259 t260 _ _ t261 t273 _ ?side1 ?side2 A22.out).mono ?_); (case side1 => repeat (first | exact (Kd.Q_reads' HO263.out).2.2 | (with_reducible refine Kd.C_alloc ?_ _) | (with_reducible refine Kd.C_drewN ?_ _) | (with_reducible refine Kd.C_drew ?_))); (case side2 => exact (Kd.Q_reads' HO263.out).2.1); rintro e w27 ⟨rfl, hb⟩; refine ⟨_, rfl, ?_⟩; replace HO263 := az (Kd.Q_below (by (with_reducible repeat (first | apply Kd.Q_alloc | apply Kd.Q_drewN | apply Kd.Q_drew)); exact HO263.out) hb); replace HO270 := az (Kd.Q_below (by (with_reducible repeat (first | apply Kd.Q_alloc | apply Kd.Q_drewN | apply Kd.Q_drew)); exact HO270.out) hb); replace BK264 := bb BK264 (fun h => by (with_reducible repeat (first | apply bn | apply bd | apply ba)); exact h) hb; replace BK271 := bb BK271 (fun h => by (with_reducible repeat (first | apply bn | apply bd | apply ba)); exact h) hb; replace HB := az (below_step (by repeat (first | (with_reducible first | exact HB.out | apply wa | apply wn | apply wd | refine ws ‹_› ?_) | exact HB.out)) hb); (try clear hb); (try clear hb2); (try clear hk); (try clear hi)))
       go_meet
       case rel => exact ⟨_, (true), (by first | rfl | (simp; done) | (simp [*]; done)), H', ⟨by have := HJ2.out; first | omega | exact Nat.le_refl _⟩, ⟨by (with_reducible repeat (first | apply Kd.Q_alloc | apply Kd.Q_drewN | apply Kd.Q_drew)); exact Kd.Q_mono HO263.out (fun _ hk => hk.2)⟩, ⟨by (with_reducible repeat (first | apply Kd.Q_alloc | apply Kd.Q_drewN | apply Kd.Q_drew)); exact Kd.Q_mono HO270.out (fun _ hk => hk.2)⟩, ⟨by (with_reducible repeat (first | apply bn | apply bd | apply ba)); exact BK264.out⟩, ⟨by (with_reducible repeat (first | apply bn | apply bd | apply ba)); exact BK271.out⟩, ⟨by repeat (first | (with_reducible first | exact HB.out | apply wa | apply wn | apply wd | refine ws ‹_› ?_) | exact HB.out)⟩⟩
      ·rw [if_neg c24] at H
       have c24b0 : (t265.toList == ([] : List UInt8)) = false := beq_eq_false_iff_ne.mpr c24
       have c24b1 : (t265.toList != ([] : List UInt8)) = true := bne_iff_ne.mpr c24
       have H' := az H
       clear H
       have hnb28 := NB264_271.out
       have hnc28 := NB271_264.out
       obtain ⟨hcz29_0, hcz29_1, hcz29_2⟩ := cz3 BK264
       obtain ⟨hfz29_0, hfz29_1, hfz29_2⟩ := fz3 BK264
       go_wp2_with (first | ((with_reducible refine gate_callee (f := 14) rfl ?_); refine goesL_ (some 28) rfl rfl Tryd.func14 (by kernel_rfl) rfl #[.agg #[.int .i64 t259, .int .i64 t260, .slice Ao14 t261.length co14]] rfl (by (try simp only [List.map_toArray, List.map_cons, List.map_nil]); first | done | rfl | (simp only [List.length_drop, List.length_take]; rfl)) ?_; (with_reducible refine (spec_PageText.calls kj2 t259 t260 _ _ t261 t273 _ ?side1 ?side2 A22.out).mono ?_); (case side1 => repeat (first | exact (Kd.Q_reads' HO263.out).2.2 | (with_reducible refine Kd.C_alloc ?_ _) | (with_reducible refine Kd.C_drewN ?_ _) | (with_reducible refine Kd.C_drew ?_))); (case side2 => exact (Kd.Q_reads' HO263.out).2.1); rintro e w30 ⟨rfl, hb⟩; refine ⟨_, rfl, ?_⟩; replace HO263 := az (Kd.Q_below (by (with_reducible repeat (first | apply Kd.Q_alloc | apply Kd.Q_drewN | apply Kd.Q_drew)); exact HO263.out) hb); replace HO270 := az (Kd.Q_below (by (with_reducible repeat (first | apply Kd.Q_alloc | apply Kd.Q_drewN | apply Kd.Q_drew)); exact HO270.out) hb); replace BK264 := bb BK264 (fun h => by (with_reducible repeat (first | apply bn | apply bd | apply ba)); exact h) hb; replace BK271 := bb BK271 (fun h => by (with_reducible repeat (first | apply bn | apply bd | apply ba)); exact h) hb; replace HB := az (below_step (by repeat (first | (with_reducible first | exact HB.out | apply wa | apply wn | apply wd | refine ws ‹_› ?_) | exact HB.out)) hb); (try clear hb); (try clear hb2); (try clear hk); (try clear hi)))
       go_meet
       case rel => exact ⟨_, ((t272.toList == ([] : List UInt8))), (by first | rfl | (simp; done) | (simp [*]; done)), H', ⟨by have := HJ2.out; first | omega | exact Nat.le_refl _⟩, ⟨by (with_reducible repeat (first | apply Kd.Q_alloc | apply Kd.Q_drewN | apply Kd.Q_drew)); exact Kd.Q_mono HO263.out (fun _ hk => hk.2)⟩, ⟨by (with_reducible repeat (first | apply Kd.Q_alloc | apply Kd.Q_drewN | apply Kd.Q_drew)); exact Kd.Q_mono HO270.out (fun _ hk => hk.2)⟩, ⟨by (with_reducible repeat (first | apply bn | apply bd | apply ba)); exact BK264.out⟩, ⟨by (with_reducible repeat (first | apply bn | apply bd | apply ba)); exact BK271.out⟩, ⟨by repeat (first | (with_reducible first | exact HB.out | apply wa | apply wn | apply wd | refine ws ‹_› ?_) | exact HB.out)⟩⟩
     ·rw [if_neg c23] at H
      have c23b0 : (t265.toList == t273.toList) = false := beq_eq_false_iff_ne.mpr c23
      have c23b1 : (t265.toList != t273.toList) = true := bne_iff_ne.mpr c23
      (first | rw [c23b0] | (simp only [i64_w, i32_w]; rw [c23b0]) | skip)
      have H' := az H
      clear H
      have hnb31 := NB264_271.out
      have hnc31 := NB271_264.out
      obtain ⟨hcz32_0, hcz32_1, hcz32_2⟩ := cz3 BK264
      obtain ⟨hfz32_0, hfz32_1, hfz32_2⟩ := fz3 BK264
      go_wp2_with (first | ((with_reducible refine gate_callee (f := 14) rfl ?_); refine goesL_ (some 28) rfl rfl Tryd.func14 (by kernel_rfl) rfl #[.agg #[.int .i64 t259, .int .i64 t260, .slice Ao14 t261.length co14]] rfl (by (try simp only [List.map_toArray, List.map_cons, List.map_nil]); first | done | rfl | (simp only [List.length_drop, List.length_take]; rfl)) ?_; (with_reducible refine (spec_PageText.calls kj2 t259 t260 _ _ t261 t273 _ ?side1 ?side2 A22.out).mono ?_); (case side1 => repeat (first | exact (Kd.Q_reads' HO263.out).2.2 | (with_reducible refine Kd.C_alloc ?_ _) | (with_reducible refine Kd.C_drewN ?_ _) | (with_reducible refine Kd.C_drew ?_))); (case side2 => exact (Kd.Q_reads' HO263.out).2.1); rintro e w33 ⟨rfl, hb⟩; refine ⟨_, rfl, ?_⟩; replace HO263 := az (Kd.Q_below (by (with_reducible repeat (first | apply Kd.Q_alloc | apply Kd.Q_drewN | apply Kd.Q_drew)); exact HO263.out) hb); replace HO270 := az (Kd.Q_below (by (with_reducible repeat (first | apply Kd.Q_alloc | apply Kd.Q_drewN | apply Kd.Q_drew)); exact HO270.out) hb); replace BK264 := bb BK264 (fun h => by (with_reducible repeat (first | apply bn | apply bd | apply ba)); exact h) hb; replace BK271 := bb BK271 (fun h => by (with_reducible repeat (first | apply bn | apply bd | apply ba)); exact h) hb; replace HB := az (below_step (by repeat (first | (with_reducible first | exact HB.out | apply wa | apply wn | apply wd | refine ws ‹_› ?_) | exact HB.out)) hb); (try clear hb); (try clear hb2); (try clear hk); (try clear hi)))
      go_meet
      case rel => exact ⟨_, (true), (by first | rfl | (simp; done) | (simp [*]; done)), H', ⟨by have := HJ2.out; first | omega | exact Nat.le_refl _⟩, ⟨by (with_reducible repeat (first | apply Kd.Q_alloc | apply Kd.Q_drewN | apply Kd.Q_drew)); exact Kd.Q_mono HO263.out (fun _ hk => hk.2)⟩, ⟨by (with_reducible repeat (first | apply Kd.Q_alloc | apply Kd.Q_drewN | apply Kd.Q_drew)); exact Kd.Q_mono HO270.out (fun _ hk => hk.2)⟩, ⟨by (with_reducible repeat (first | apply bn | apply bd | apply ba)); exact BK264.out⟩, ⟨by (with_reducible repeat (first | apply bn | apply bd | apply ba)); exact BK271.out⟩, ⟨by repeat (first | (with_reducible first | exact HB.out | apply wa | apply wn | apply wd | refine ws ‹_› ?_) | exact HB.out)⟩⟩
    case rest =>
     clear HC10;(try clear c1);(try clear c2);(try clear p2);(try clear c3);(try clear c4);(try clear c4b0);(try clear c4b1);(try clear c5);(try clear c12);(try clear c13);(try clear c14);(try clear c18);(try clear c23);(try clear c23b0);(try clear c23b1);(try clear c24);(try clear c24b0);(try clear c24b1);(try clear c25);(try clear c28);(try clear c31);(try clear hcz13_0);(try clear hcz13_1);(try clear hcz13_2);(try clear hcz19_0);(try clear hcz19_1);(try clear hcz19_2);(try clear hcz26_0);(try clear hcz26_1);(try clear hcz26_2);(try clear hcz29_0);(try clear hcz29_1);(try clear hcz29_2);(try clear hcz32_0);(try clear hcz32_1);(try clear hcz32_2);(try clear hfz13_0);(try clear hfz13_1);(try clear hfz13_2);(try clear hfz19_0);(try clear hfz19_1);(try clear hfz19_2);(try clear hfz26_0);(try clear hfz26_1);(try clear hfz26_2);(try clear hfz29_0);(try clear hfz29_1);(try clear hfz29_2);(try clear hfz32_0);(try clear hfz32_1);(try clear hfz32_2);(try clear p2)
     obtain ⟨kq, x37_9, rfl, HA, HJ9, HO_265002, HO_272002, BK264, BK271, HB⟩ := hcut
     cases kq with
     | zero => exact absurd HA.out (by simp [laws_FnPageText.j1])
     | succ kj9 =>
      have H := HA.out
      clear HA
      simp only [laws_FnPageText.j1] at H
      by_cases c34 : x37_9 = true
      ·subst c34
       have H1 : ((spec_PageText.f kj9 t259 t260 t261).bind fun t274 => (some (t265.toList == t274.toList))) = some r := by rw [if_pos rfl] at H; exact H
       clear H
       have H := H1
       clear H1
       replace H := Option.bind_eq_some_iff.mp H
       obtain ⟨t274, A350, H⟩ := H
       replace H : (some (t265.toList == t274.toList)) = some r := H
       have A35 := az A350
       clear A350
       obtain rfl := Option.some.inj H
       have hnb36 := NB264_271.out
       have hnc36 := NB271_264.out
       obtain ⟨hcz37_0, hcz37_1, hcz37_2⟩ := cz3 BK264
       obtain ⟨hfz37_0, hfz37_1, hfz37_2⟩ := fz3 BK264
       go_wp2_with (first | ((with_reducible refine gate_callee (f := 14) rfl ?_); refine goesL_ (some 40) rfl rfl Tryd.func14 (by kernel_rfl) rfl #[.agg #[.int .i64 t259, .int .i64 t260, .slice Ao14 t261.length co14]] rfl (by (try simp only [List.map_toArray, List.map_cons, List.map_nil]); first | done | rfl | (simp only [List.length_drop, List.length_take]; rfl)) ?_; (with_reducible refine (spec_PageText.calls kj9 t259 t260 _ _ t261 t274 _ ?side1 ?side2 A35.out).mono ?_); (case side1 => repeat (first | exact (Kd.Q_reads' HO_265002.out).2.2 | (with_reducible refine Kd.C_alloc ?_ _) | (with_reducible refine Kd.C_drewN ?_ _) | (with_reducible refine Kd.C_drew ?_))); (case side2 => exact (Kd.Q_reads' HO_265002.out).2.1); rintro e w38 ⟨rfl, hb⟩; refine ⟨_, rfl, ?_⟩; replace HO_265002 := az (Kd.Q_below (by (with_reducible repeat (first | apply Kd.Q_alloc | apply Kd.Q_drewN | apply Kd.Q_drew)); exact HO_265002.out) hb); replace HO_272002 := az (Kd.Q_below (by (with_reducible repeat (first | apply Kd.Q_alloc | apply Kd.Q_drewN | apply Kd.Q_drew)); exact HO_272002.out) hb); replace BK264 := bb BK264 (fun h => by (with_reducible repeat (first | apply bn | apply bd | apply ba)); exact h) hb; replace BK271 := bb BK271 (fun h => by (with_reducible repeat (first | apply bn | apply bd | apply ba)); exact h) hb; replace HB := az (below_step (by repeat (first | (with_reducible first | exact HB.out | apply wa | apply wn | apply wd | refine ws ‹_› ?_) | exact HB.out)) hb); (try clear hb); (try clear hb2); (try clear hk); (try clear hi)))
       go_ret
       exact ⟨by first | rfl | (simp [errW_none, errW_some] <;> rfl) | (simp [*, errW_none, errW_some] <;> rfl), by repeat (first | (with_reducible first | exact HB.out | apply wa | apply wn | apply wd | refine ws ‹_› ?_) | exact HB.out)⟩
      ·replace c34 := Bool.eq_false_iff.mpr c34
       subst c34
       have H1 : ((laws_ltHas.f kj9 t259 t260 t261 t266 t267 t268).bind fun t276 => (if ((t265.toList == t272.toList) == t276) = true then ((impl_PageText.f kj9 0 t260 t261).bind fun t277 => (if t277.toList = t265.toList then (some ((t265.size : Int) == 7)) else (some false))) else (some false))) = some r := by rw [if_neg (show ¬ (false = true) by decide)] at H; exact H
       clear H
       have H := H1
       clear H1
       replace H := Option.bind_eq_some_iff.mp H
       obtain ⟨t276, A390, H⟩ := H
       replace H : (if ((t265.toList == t272.toList) == t276) = true then ((impl_PageText.f kj9 0 t260 t261).bind fun t277 => (if t277.toList = t265.toList then (some ((t265.size : Int) == 7)) else (some false))) else (some false)) = some r := H
       have A39 := az A390
       clear A390
       by_cases c40 : ((t265.toList == t272.toList) == t276) = true
       ·rw [if_pos c40] at H
        have c40b0 : ((t265.toList == t272.toList) == t276) = true := c40
        (try (have c40b1 : decide ((t265.toList == t272.toList) = t276) = true := by simpa using c40))
        (try (have c40b2 : ((t265.toList == t272.toList) == t276) = true := by simpa using c40))
        clear c40
        replace H := Option.bind_eq_some_iff.mp H
        obtain ⟨t277, A410, H⟩ := H
        replace H : (if t277.toList = t265.toList then (some ((t265.size : Int) == 7)) else (some false)) = some r := H
        have A41 := az A410
        clear A410
        by_cases c42 : t277.toList = t265.toList
        ·rw [if_pos c42] at H
         have c42b0 : (t277.toList == t265.toList) = true := beq_iff_eq.mpr c42
         have c42b1 : (t277.toList != t265.toList) = false := bne_eq_false_iff_eq.mpr c42
         clear c42
         obtain rfl := Option.some.inj H
         have hnb43 := NB264_271.out
         have hnc43 := NB271_264.out
         obtain ⟨hcz44_0, hcz44_1, hcz44_2⟩ := cz3 BK264
         obtain ⟨hfz44_0, hfz44_1, hfz44_2⟩ := fz3 BK264
         go_wp2_with (first | ((with_reducible refine gate_dst (N := 9) rfl ?_); (try (refine gate_guard (by rfl) ?_; dsimp only)); refine box_event ?hg (N := 9) ?hd (cs := #[.int .i64 0, .int .i64 0, .slice none 0 0]) (t := 25) ?hr ?_; (case hd => rfl); (case hg => rfl); (case hr => first | (go_simp; done) | (go_simp; rfl)); intro gb275 hg w45 hbox hb; replace HO_265002 := az (Kd.Q_below (by (with_reducible repeat (first | apply Kd.Q_alloc | apply Kd.Q_drewN | apply Kd.Q_drew)); exact HO_265002.out) hb); replace HO_272002 := az (Kd.Q_below (by (with_reducible repeat (first | apply Kd.Q_alloc | apply Kd.Q_drewN | apply Kd.Q_drew)); exact HO_272002.out) hb); have BK275 := az (hbox); have GW275 := az ((by rw [hg]; exact (below_size (by repeat (first | (with_reducible first | exact HB.out | apply wa | apply wn | apply wd | refine ws ‹_› ?_) | exact HB.out))) : w.heap.size ≤ gb275)); have GE275 := GW275; replace HB := az (below_step (by repeat (first | (with_reducible first | exact HB.out | apply wa | apply wn | apply wd | refine ws ‹_› ?_) | exact HB.out)) hb); obtain ⟨NB264_275, NB275_264⟩ := nb BK264 hg (fun h => by (with_reducible repeat (first | apply bn | apply bd | apply ba)); exact h); replace BK264 := bb BK264 (fun h => by (with_reducible repeat (first | apply bn | apply bd | apply ba)); exact h) hb; obtain ⟨NB271_275, NB275_271⟩ := nb BK271 hg (fun h => by (with_reducible repeat (first | apply bn | apply bd | apply ba)); exact h); replace BK271 := bb BK271 (fun h => by (with_reducible repeat (first | apply bn | apply bd | apply ba)); exact h) hb; clear hb hbox hg; have hnb46 := NB275_264.out; have hnc46 := NB264_275.out; have hnb47 := NB275_271.out; have hnc47 := NB271_275.out; obtain ⟨hcz48_0, hcz48_1, hcz48_2⟩ := cz3 BK275; obtain ⟨hfz48_0, hfz48_1, hfz48_2⟩ := fz3 BK275; obtain ⟨hcz49_0, hcz49_1, hcz49_2⟩ := cz3 BK264; obtain ⟨hfz49_0, hfz49_1, hfz49_2⟩ := fz3 BK264; obtain ⟨hcz50_0, hcz50_1, hcz50_2⟩ := cz3 BK271; have hfz50_0 := blk_frozen BK271.out 0; have hfz50_1 := blk_frozen BK271.out 1; have hfz50_2 := blk_frozen BK271.out 2) | ((with_reducible refine gate_callee (f := 19) rfl ?_); refine goesL_ (some 49) rfl rfl Tryd.func19 (by kernel_rfl) rfl #[.agg #[.int .i64 t259, .int .i64 t260, .slice Ao14 t261.length co14], .agg #[.int .i64 t266, .int .i64 t267, .slice Ao20 t268.length co20]] rfl (by (try simp only [List.map_toArray, List.map_cons, List.map_nil]); first | done | rfl | (simp only [List.length_drop, List.length_take]; rfl)) ?_; (with_reducible refine (laws_ltHas.calls kj9 t259 t260 _ _ t261 t266 t267 _ _ t268 t276 _ ?side1 ?side2 ?side3 ?side4 A39.out).mono ?_); (case side1 => refine (Kd.Q_reads' (e := 3) (base := w.heap.size) (ok := fun k_ => some k_ ≠ (.slice Ao20 t268.length co20 : Value).ownBlock) (n := t261.length) (c := co14) ?_).2.2; exact (by (with_reducible repeat (first | apply Kd.Q_alloc | apply Kd.Q_drewN | apply Kd.Q_drew)); exact (fQ4 HO_265002.out BK275.out (by decide)))); (case side2 => exact (Kd.Q_reads' HO_265002.out).2.1); (case side3 => refine (Kd.Q_reads' (e := 3) (base := w.heap.size) (ok := fun k_ => some k_ ≠ (.slice Ao14 t261.length co14 : Value).ownBlock) (n := t268.length) (c := co20) ?_).2.2; exact (by (with_reducible repeat (first | apply Kd.Q_alloc | apply Kd.Q_drewN | apply Kd.Q_drew)); exact (fQ4 HO_272002.out BK275.out (by decide)))); (case side4 => exact (Kd.Q_reads' HO_272002.out).2.1); rintro e w51 ⟨rfl, hb⟩; refine ⟨_, rfl, ?_⟩; replace HO_265002 := az (Kd.Q_below (by (with_reducible repeat (first | apply Kd.Q_alloc | apply Kd.Q_drewN | apply Kd.Q_drew)); exact (fQ4 HO_265002.out BK275.out (by decide))) hb); replace HO_272002 := az (Kd.Q_below (by (with_reducible repeat (first | apply Kd.Q_alloc | apply Kd.Q_drewN | apply Kd.Q_drew)); exact (fQ4 HO_272002.out BK275.out (by decide))) hb); replace BK264 := az (blk_below (g := gb264) (o := .cells #[.int .i64 t259, .int .i64 t260, .slice Ao14 t261.length co14] 25 (0, 0)) (by (repeat (first | (with_reducible first | apply bn | apply bd | apply ba) | apply bf NB264_275)); exact BK264.out) hb); replace BK271 := az (blk_below (g := gb271) (o := .cells #[.int .i64 t266, .int .i64 t267, .slice Ao20 t268.length co20] 25 (0, 0)) (by (repeat (first | (with_reducible first | apply bn | apply bd | apply ba) | apply bf NB271_275)); exact BK271.out) hb); replace BK275 := az (blk_below (g := gb275) (o := .cells #[.int .i64 0, .int .i64 t260, .slice Ao14 t261.length co14] 25 (0, 0)) (by (with_reducible repeat (first | apply bn | apply bd | apply ba)); refine blk_put (cs := #[.int .i64 t259, .int .i64 t260, .slice Ao14 t261.length co14]) ?_ 0 _ rfl; (with_reducible repeat (first | apply bn | apply bd | apply ba)); exact p3 BK275) hb); replace HB := az (below_step (by repeat (first | (with_reducible first | exact HB.out | apply wa | apply wn | apply wd | refine ws ‹_› ?_) | exact HB.out)) hb); (try clear hb); (try clear hb2); (try clear hk); (try clear hi); obtain ⟨hcz52_0, hcz52_1, hcz52_2⟩ := cz3 BK275; have hfz52_0 := blk_frozen BK275.out 0; have hfz52_1 := blk_frozen BK275.out 1; have hfz52_2 := blk_frozen BK275.out 2) | (go_at_call 13; (with_reducible refine (impl_PageText.calls kj9 0 t260 _ _ t261 t277 _ ?side1 ?side2 A41.out).mono ?_); (case side1 => repeat (first | exact (Kd.Q_reads' HO_265002.out).2.2 | (with_reducible refine Kd.C_alloc ?_ _) | (with_reducible refine Kd.C_drewN ?_ _) | (with_reducible refine Kd.C_drew ?_))); (case side2 => exact (Kd.Q_reads' HO_265002.out).2.1); rintro e w53 ⟨rfl, hb⟩; replace HO_265002 := az (Kd.Q_below (by (with_reducible repeat (first | apply Kd.Q_alloc | apply Kd.Q_drewN | apply Kd.Q_drew)); exact HO_265002.out) hb); replace HO_272002 := az (Kd.Q_below (by (with_reducible repeat (first | apply Kd.Q_alloc | apply Kd.Q_drewN | apply Kd.Q_drew)); exact HO_272002.out) hb); replace BK264 := bb BK264 (fun h => by (with_reducible repeat (first | apply bn | apply bd | apply ba)); exact h) hb; replace BK271 := bb BK271 (fun h => by (with_reducible repeat (first | apply bn | apply bd | apply ba)); exact h) hb; replace BK275 := bb BK275 (fun h => by (with_reducible repeat (first | apply bn | apply bd | apply ba)); exact h) hb; replace HB := az (below_step (by repeat (first | (with_reducible first | exact HB.out | apply wa | apply wn | apply wd | refine ws ‹_› ?_) | exact HB.out)) hb); (try clear hb); (try clear hb2); (try clear hk); (try clear hi)))
         go_ret
         exact ⟨by first | rfl | (simp [errW_none, errW_some] <;> rfl) | (simp [*, errW_none, errW_some] <;> rfl), by repeat (first | (with_reducible first | exact HB.out | apply wa | apply wn | apply wd | refine ws ‹_› ?_) | exact HB.out)⟩
        ·rw [if_neg c42] at H
         have c42b0 : (t277.toList == t265.toList) = false := beq_eq_false_iff_ne.mpr c42
         have c42b1 : (t277.toList != t265.toList) = true := bne_iff_ne.mpr c42
         obtain rfl := Option.some.inj H
         exact absurd hT_.out (by simp)
       ·rw [if_neg c40] at H
        have c40b0 : ((t265.toList == t272.toList) == t276) = false := by simpa using c40
        (try (have c40b1 : decide ((t265.toList == t272.toList) = t276) = false := by simpa using c40))
        (try (have c40b2 : ((t265.toList == t272.toList) == t276) = false := by simpa using c40))
        (try (have c40b3 : ¬ ((t265.toList == t272.toList) = t276) := by simpa using c40))
        clear c40
        obtain rfl := Option.some.inj H
        exact absurd hT_.out (by simp)
end Go.Proofs.YtajdjoggflagdaaDoor.Pr
