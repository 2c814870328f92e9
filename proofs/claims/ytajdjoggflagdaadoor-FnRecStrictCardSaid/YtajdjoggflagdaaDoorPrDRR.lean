-- Laid by a program (extract.py) out of this seat's translation: contracts of a few functions, a text a function; Lean checks them.
import Derived.Test.YtajdjoggflagdaaDoorPrK
import Derived.Test.YtajdjoggflagdaaDoorPrRT
import Derived.Test.YtajdjoggflagdaaDoorPrL71
import Derived.Test.YtajdjoggflagdaaDoorRRx
import Derived.Test.YtajdjoggflagdaaDoorBu
import Derived.Test.YtajdjoggflagdaaDoorSq
namespace Go.Proofs.YtajdjoggflagdaaDoor.Pr
open Go.RowKit Go.Proofs.YtajdjoggflagdaaDoorW.PrintWords Go.Proofs.YtajdjoggflagdaaDoorW.PrintLast Go.Proofs.YtajdjoggflagdaaDoorW.PrintMore
attribute [local go_sem] max2_int min2_int max_two min_two max_three min_three max_four min_four
set_option linter.unusedVariables false
set_option linter.unusedSimpArgs false
/-! ### spec_l6Rd_of: function 56 -/
def spec_l6Rd_of.f (k : Nat) (s0_0 : List Int) (s0_1 : Int) (l1 : List ByteArray) : Option (ByteArray × Int) := (spec_l6Rd_pick.f k s0_0 s0_1 (l1.length : Int)).bind fun bt278 => (if 0 ≤ bt278.1 then (if bt278.1 < (l1.length : Int) then (some (rdOf ByteArray.empty l1 bt278.1, bt278.2)) else (none)) else (none))
theorem spec_l6Rd_of.mono : ∀ a0 a1 a2 k, LeO (spec_l6Rd_of.f k a0 a1 a2) (spec_l6Rd_of.f (k + 1) a0 a1 a2) := by
 intro a0 a1 a2 k
 unfold spec_l6Rd_of.f
 repeat' first
   | (with_reducible exact spec_l6Rd_pick.mono _ _ _ _)
   | (with_reducible exact LeO.refl _)
   | (with_reducible exact LeO.none _)
   | (with_reducible refine LeO.ite ?_ ?_)
   | (with_reducible refine LeO.bind ?_ (fun _ => ?_))
   | exact spec_l6Rd_pick.mono _ _ _ _
   | exact LeO.none _
   | refine LeO.ite ?_ ?_
   | refine LeO.bind ?_ (fun _ => ?_)
set_option maxHeartbeats 8000000 in
set_option maxRecDepth 100000 in
theorem spec_l6Rd_of.calls (k : Nat) (g : Nat) (s0_0 : List Int) (s0_1 : Int) (A1 : Option Addr) (c1 : Nat) (l1 : List ByteArray) (r1 : ByteArray) (r2 : Int) (w0 w : World) (hI : IsS80 w0 w g s0_0 s0_1) (hB : Below w0.heap.size w0 w) (hr1 : Kd.C Kd.string w A1 l1.length l1) (hc1 : l1.length ≤ c1) (hf1 : ∀ ad, A1 = some ad → 0 < l1.length → ad.block ≠ g) (h : spec_l6Rd_of.f k s0_0 s0_1 l1 = some (r1, r2)) :
  Calls Tryd.prog 56 #[.pointer (some ⟨g, 0, none⟩), .slice A1 l1.length c1] w fun e w' => e = .returned (.string r1) ∧ IsS80 w0 w' g s0_0 r2 ∧ Below w0.heap.size w0 w' ∧ KeepBut w w' g none := by
 have HR1 := az hr1
 have HC1 := az hc1
 clear hr1 hc1
 have HI0 := az hI
 have HK := az (KeepBut.refl w g none)
 have HL := az hB.size
 clear hI
 have HW0 := az hB.size
 have HB := az hB
 clear hB
 have H : ((spec_l6Rd_pick.f k s0_0 s0_1 (l1.length : Int)).bind fun bt278 => (if 0 ≤ bt278.1 then (if bt278.1 < (l1.length : Int) then (some (rdOf ByteArray.empty l1 bt278.1, bt278.2)) else (none)) else (none))) = some (r1, r2) := h
 clear h
 replace H := Option.bind_eq_some_iff.mp H
 obtain ⟨⟨t278, t279⟩, A30, H⟩ := H
 replace H : (if 0 ≤ t278 then (if t278 < (l1.length : Int) then (some (rdOf ByteArray.empty l1 t278, t279)) else (none)) else (none)) = some (r1, r2) := H
 have A3 := az A30
 clear A30
 by_cases c4 : 0 ≤ t278
 ·rw [if_pos c4] at H
  have c4b0 : decide (0 ≤ t278) = true := decide_eq_true c4
  clear c4
  by_cases c5 : t278 < (l1.length : Int)
  ·rw [if_pos c5] at H
   have c5b0 : decide (t278 < (l1.length : Int)) = true := decide_eq_true c5
   clear c5
   simp only [Option.some.injEq, Prod.mk.injEq] at H
   obtain ⟨rfl, rfl⟩ := H
   go_enter Tryd.func56, Tryd.ntmps56
   go_wp2_with (first | ((with_reducible refine gate_callee (f := 41) rfl ?_); refine goesL_ (some 9) rfl rfl Tryd.func41 (by kernel_rfl) rfl #[.pointer (some ⟨g, 0, none⟩), .int .i64 (l1.length : Int)] rfl (by (try simp only [List.map_toArray, List.map_cons, List.map_nil]); first | done | rfl | (simp only [List.length_drop, List.length_take]; rfl)) ?_; (with_reducible refine (spec_l6Rd_pick.calls k g s0_0 s0_1 (l1.length : Int) t278 t279 w0 _ ?side1 ?side2 A3.out).mono ?_); (case side1 => repeat (first | (with_reducible first | exact HI0.out | apply IsS80.alloc | apply IsS80.drewN | apply IsS80.drew | apply IsS80.set_1) | exact HI0.out)); (case side2 => repeat (first | (with_reducible first | exact HB.out | apply wa | apply wn | apply wd | refine below_set ?_ (IsS80.ge HI0.out)) | exact HB.out)); rintro e w6 ⟨rfl, hi, hb, hk⟩; refine ⟨_, rfl, ?_⟩; replace HK := az (KeepBut.trans (by repeat (first | (with_reducible first | exact HK.out | apply KeepBut.set_ | apply keep_drewN | apply keep_drew | apply keep_alloc) | exact HK.out)) hk (.inl rfl)); replace HB := az (hb); replace HI0 := az (hi); (try clear hb); (try clear hb2); (try clear hk); (try clear hi); have p280 : 0 ≤ (t278 : Int) := of_decide_eq_true (by first | (with_reducible assumption) | assumption); have q280 : t278 < (l1.length : Int) := of_decide_eq_true (by first | (with_reducible assumption) | assumption); obtain ⟨ad280, e280, hx280_0⟩ := Kd.at_string HR1.out t278 p280 q280; cases e280; replace hx280_0 := keep_cell HK.out hx280_0 (by first | (rw [add_block]; exact hf1 _ rfl (by omega)) | exact hf1 _ rfl (by omega) | exact hf1 ad280 rfl (by omega)); replace p280 := eq_true p280; replace q280 := eq_true q280))
   go_ret
   exact ⟨by first | rfl | (simp [errW_none, errW_some] <;> rfl) | (simp [*, errW_none, errW_some] <;> rfl), by repeat (first | (with_reducible first | exact HI0.out | apply IsS80.alloc | apply IsS80.drewN | apply IsS80.drew | apply IsS80.set_1) | exact HI0.out), by repeat (first | (with_reducible first | exact HB.out | apply wa | apply wn | apply wd | refine below_set ?_ (IsS80.ge HI0.out)) | exact HB.out), by repeat (first | (with_reducible first | exact HK.out | apply KeepBut.set_ | apply keep_drewN | apply keep_drew | apply keep_alloc) | exact HK.out)⟩
  ·rw [if_neg c5] at H
   exact absurd H (by simp)
 ·rw [if_neg c4] at H
  exact absurd H (by simp)



/-! ### spec_DrawRecRead: function 29 -/
def spec_DrawRecRead.f (k : Nat) (l0 : List Int) : Option (ByteArray) := (spec_l6Open.f l0).bind fun bt281 => ((spec_l71Rec.f k bt281.1 bt281.2).bind fun bt284 => ((spec_RecText.f k bt284.1 bt284.2.1 bt284.2.2.1 bt284.2.2.2.1 bt284.2.2.2.2.1 bt284.2.2.2.2.2.1 bt284.2.2.2.2.2.2.1 bt284.2.2.2.2.2.2.2.1).bind fun t293 => ((spec_l6Rd_pick.f k bt281.1 bt284.2.2.2.2.2.2.2.2 (wrap64 ((t293.size : Int) + 1))).bind fun bt294 => ((spec_l6Rd_pick.f k bt281.1 bt294.2 7).bind fun bt296 => (if bt296.1 = 0 then (if 0 ≤ bt294.1 then (if bt294.1 ≤ (t293.size : Int) then (some (t293.extract 0 (bt294.1 : Int).toNat)) else (none)) else (none)) else (if bt296.1 = 1 then (if 0 ≤ bt294.1 then (if bt294.1 ≤ (t293.size : Int) then ((spec_l6Rd_of.f k bt281.1 bt296.2 (([(⟨#[48]⟩ : ByteArray), (⟨#[32]⟩ : ByteArray), (⟨#[49]⟩ : ByteArray), (⟨#[45]⟩ : ByteArray), (⟨#[32, 48]⟩ : ByteArray)] : List ByteArray))).bind fun bt301 => (if (t293.extract 0 (bt294.1 : Int).toNat).size + bt301.1.size ≤ 9223372036854775807 then (if ((t293.extract 0 (bt294.1 : Int).toNat) ++ bt301.1).size + (t293.extract (bt294.1 : Int).toNat t293.size).size ≤ 9223372036854775807 then (some (((t293.extract 0 (bt294.1 : Int).toNat) ++ bt301.1) ++ (t293.extract (bt294.1 : Int).toNat t293.size))) else (none)) else (none))) else (none)) else (none)) else (some t293)))))))
theorem spec_DrawRecRead.mono : ∀ a0 k, LeO (spec_DrawRecRead.f k a0) (spec_DrawRecRead.f (k + 1) a0) := by
 intro a0 k
 unfold spec_DrawRecRead.f
 repeat' first
   | (with_reducible exact spec_RecText.mono _ _ _ _ _ _ _ _ _)
   | (with_reducible exact spec_l6Rd_of.mono _ _ _ _)
   | (with_reducible exact spec_l6Rd_pick.mono _ _ _ _)
   | (with_reducible exact spec_l71Rec.mono _ _ _)
   | (with_reducible exact LeO.refl _)
   | (with_reducible exact LeO.none _)
   | (with_reducible refine LeO.ite ?_ ?_)
   | (with_reducible refine LeO.bind ?_ (fun _ => ?_))
   | exact spec_RecText.mono _ _ _ _ _ _ _ _ _
   | exact spec_l6Rd_of.mono _ _ _ _
   | exact spec_l6Rd_pick.mono _ _ _ _
   | exact spec_l71Rec.mono _ _ _
   | exact LeO.none _
   | refine LeO.ite ?_ ?_
   | refine LeO.bind ?_ (fun _ => ?_)
def spec_DrawRecRead.T8 : Bool × List (List Nat × List Nat) := (true, [([], []), ([], []), ([0, 1], [0, 1]), ([], []), ([], []), ([3, 4], [3, 4]), ([2, 5], [2, 5]), ([], []), ([], []), ([7, 8], [7, 8]), ([6, 9], [6, 9]), ([10, 5, 0, 1, 2, 3, 4, 5, 6, 7, 8, 9, 10], [10])])
def spec_DrawRecRead.B8 : List Nat := [0, 0, 3, 0, 0, 24, 63, 0, 0, 384, 1023, 2047]
theorem spec_DrawRecRead.tab8 : rtab .any (opsOf Tryd.f29 8) = spec_DrawRecRead.T8 := by kernel_rfl
theorem spec_DrawRecRead.bits8 : waitsOk spec_DrawRecRead.T8.2 spec_DrawRecRead.B8 = true := by kernel_rfl
set_option maxHeartbeats 8000000 in
set_option maxRecDepth 100000 in
theorem spec_DrawRecRead.calls (k : Nat) (A0 : Option Addr) (c0 : Nat) (l0 : List Int) (r : ByteArray) (w : World) (hr0 : Kd.C (Kd.int .u8) w A0 l0.length l0) (hc0 : l0.length ≤ c0) (h : spec_DrawRecRead.f k l0 = some r) :
  Calls Tryd.prog 29 #[.slice A0 l0.length c0] w fun e w' => e = .returned (.string r) ∧ Below w.heap.size w w' := by
 have HR0 := az hr0
 have HC0 := az hc0
 clear hr0 hc0
 have HB := az (Below.refl w.heap.size w)
 have H : ((spec_l6Open.f l0).bind fun bt281 => ((spec_l71Rec.f k bt281.1 bt281.2).bind fun bt284 => ((spec_RecText.f k bt284.1 bt284.2.1 bt284.2.2.1 bt284.2.2.2.1 bt284.2.2.2.2.1 bt284.2.2.2.2.2.1 bt284.2.2.2.2.2.2.1 bt284.2.2.2.2.2.2.2.1).bind fun t293 => ((spec_l6Rd_pick.f k bt281.1 bt284.2.2.2.2.2.2.2.2 (wrap64 ((t293.size : Int) + 1))).bind fun bt294 => ((spec_l6Rd_pick.f k bt281.1 bt294.2 7).bind fun bt296 => (if bt296.1 = 0 then (if 0 ≤ bt294.1 then (if bt294.1 ≤ (t293.size : Int) then (some (t293.extract 0 (bt294.1 : Int).toNat)) else (none)) else (none)) else (if bt296.1 = 1 then (if 0 ≤ bt294.1 then (if bt294.1 ≤ (t293.size : Int) then ((spec_l6Rd_of.f k bt281.1 bt296.2 (([(⟨#[48]⟩ : ByteArray), (⟨#[32]⟩ : ByteArray), (⟨#[49]⟩ : ByteArray), (⟨#[45]⟩ : ByteArray), (⟨#[32, 48]⟩ : ByteArray)] : List ByteArray))).bind fun bt301 => (if (t293.extract 0 (bt294.1 : Int).toNat).size + bt301.1.size ≤ 9223372036854775807 then (if ((t293.extract 0 (bt294.1 : Int).toNat) ++ bt301.1).size + (t293.extract (bt294.1 : Int).toNat t293.size).size ≤ 9223372036854775807 then (some (((t293.extract 0 (bt294.1 : Int).toNat) ++ bt301.1) ++ (t293.extract (bt294.1 : Int).toNat t293.size))) else (none)) else (none))) else (none)) else (none)) else (some t293)))))))) = some r := h
 clear h
 replace H := Option.bind_eq_some_iff.mp H
 obtain ⟨⟨t281, t282⟩, A20, H⟩ := H
 replace H : ((spec_l71Rec.f k t281 t282).bind fun bt284 => ((spec_RecText.f k bt284.1 bt284.2.1 bt284.2.2.1 bt284.2.2.2.1 bt284.2.2.2.2.1 bt284.2.2.2.2.2.1 bt284.2.2.2.2.2.2.1 bt284.2.2.2.2.2.2.2.1).bind fun t293 => ((spec_l6Rd_pick.f k t281 bt284.2.2.2.2.2.2.2.2 (wrap64 ((t293.size : Int) + 1))).bind fun bt294 => ((spec_l6Rd_pick.f k t281 bt294.2 7).bind fun bt296 => (if bt296.1 = 0 then (if 0 ≤ bt294.1 then (if bt294.1 ≤ (t293.size : Int) then (some (t293.extract 0 (bt294.1 : Int).toNat)) else (none)) else (none)) else (if bt296.1 = 1 then (if 0 ≤ bt294.1 then (if bt294.1 ≤ (t293.size : Int) then ((spec_l6Rd_of.f k t281 bt296.2 (([(⟨#[48]⟩ : ByteArray), (⟨#[32]⟩ : ByteArray), (⟨#[49]⟩ : ByteArray), (⟨#[45]⟩ : ByteArray), (⟨#[32, 48]⟩ : ByteArray)] : List ByteArray))).bind fun bt301 => (if (t293.extract 0 (bt294.1 : Int).toNat).size + bt301.1.size ≤ 9223372036854775807 then (if ((t293.extract 0 (bt294.1 : Int).toNat) ++ bt301.1).size + (t293.extract (bt294.1 : Int).toNat t293.size).size ≤ 9223372036854775807 then (some (((t293.extract 0 (bt294.1 : Int).toNat) ++ bt301.1) ++ (t293.extract (bt294.1 : Int).toNat t293.size))) else (none)) else (none))) else (none)) else (none)) else (some t293))))))) = some r := H
 have A2 := az A20
 clear A20
 replace H := Option.bind_eq_some_iff.mp H
 obtain ⟨⟨t284, t285, t286, t287, t288, t289, t290, t291, t292⟩, A30, H⟩ := H
 replace H : ((spec_RecText.f k t284 t285 t286 t287 t288 t289 t290 t291).bind fun t293 => ((spec_l6Rd_pick.f k t281 t292 (wrap64 ((t293.size : Int) + 1))).bind fun bt294 => ((spec_l6Rd_pick.f k t281 bt294.2 7).bind fun bt296 => (if bt296.1 = 0 then (if 0 ≤ bt294.1 then (if bt294.1 ≤ (t293.size : Int) then (some (t293.extract 0 (bt294.1 : Int).toNat)) else (none)) else (none)) else (if bt296.1 = 1 then (if 0 ≤ bt294.1 then (if bt294.1 ≤ (t293.size : Int) then ((spec_l6Rd_of.f k t281 bt296.2 (([(⟨#[48]⟩ : ByteArray), (⟨#[32]⟩ : ByteArray), (⟨#[49]⟩ : ByteArray), (⟨#[45]⟩ : ByteArray), (⟨#[32, 48]⟩ : ByteArray)] : List ByteArray))).bind fun bt301 => (if (t293.extract 0 (bt294.1 : Int).toNat).size + bt301.1.size ≤ 9223372036854775807 then (if ((t293.extract 0 (bt294.1 : Int).toNat) ++ bt301.1).size + (t293.extract (bt294.1 : Int).toNat t293.size).size ≤ 9223372036854775807 then (some (((t293.extract 0 (bt294.1 : Int).toNat) ++ bt301.1) ++ (t293.extract (bt294.1 : Int).toNat t293.size))) else (none)) else (none))) else (none)) else (none)) else (some t293)))))) = some r := H
 have A3 := az A30
 clear A30
 replace H := Option.bind_eq_some_iff.mp H
 obtain ⟨t293, A40, H⟩ := H
 replace H : ((spec_l6Rd_pick.f k t281 t292 (wrap64 ((t293.size : Int) + 1))).bind fun bt294 => ((spec_l6Rd_pick.f k t281 bt294.2 7).bind fun bt296 => (if bt296.1 = 0 then (if 0 ≤ bt294.1 then (if bt294.1 ≤ (t293.size : Int) then (some (t293.extract 0 (bt294.1 : Int).toNat)) else (none)) else (none)) else (if bt296.1 = 1 then (if 0 ≤ bt294.1 then (if bt294.1 ≤ (t293.size : Int) then ((spec_l6Rd_of.f k t281 bt296.2 (([(⟨#[48]⟩ : ByteArray), (⟨#[32]⟩ : ByteArray), (⟨#[49]⟩ : ByteArray), (⟨#[45]⟩ : ByteArray), (⟨#[32, 48]⟩ : ByteArray)] : List ByteArray))).bind fun bt301 => (if (t293.extract 0 (bt294.1 : Int).toNat).size + bt301.1.size ≤ 9223372036854775807 then (if ((t293.extract 0 (bt294.1 : Int).toNat) ++ bt301.1).size + (t293.extract (bt294.1 : Int).toNat t293.size).size ≤ 9223372036854775807 then (some (((t293.extract 0 (bt294.1 : Int).toNat) ++ bt301.1) ++ (t293.extract (bt294.1 : Int).toNat t293.size))) else (none)) else (none))) else (none)) else (none)) else (some t293))))) = some r := H
 have A4 := az A40
 clear A40
 replace H := Option.bind_eq_some_iff.mp H
 obtain ⟨⟨t294, t295⟩, A50, H⟩ := H
 replace H : ((spec_l6Rd_pick.f k t281 t295 7).bind fun bt296 => (if bt296.1 = 0 then (if 0 ≤ t294 then (if t294 ≤ (t293.size : Int) then (some (t293.extract 0 (t294 : Int).toNat)) else (none)) else (none)) else (if bt296.1 = 1 then (if 0 ≤ t294 then (if t294 ≤ (t293.size : Int) then ((spec_l6Rd_of.f k t281 bt296.2 (([(⟨#[48]⟩ : ByteArray), (⟨#[32]⟩ : ByteArray), (⟨#[49]⟩ : ByteArray), (⟨#[45]⟩ : ByteArray), (⟨#[32, 48]⟩ : ByteArray)] : List ByteArray))).bind fun bt301 => (if (t293.extract 0 (t294 : Int).toNat).size + bt301.1.size ≤ 9223372036854775807 then (if ((t293.extract 0 (t294 : Int).toNat) ++ bt301.1).size + (t293.extract (t294 : Int).toNat t293.size).size ≤ 9223372036854775807 then (some (((t293.extract 0 (t294 : Int).toNat) ++ bt301.1) ++ (t293.extract (t294 : Int).toNat t293.size))) else (none)) else (none))) else (none)) else (none)) else (some t293)))) = some r := H
 have A5 := az A50
 clear A50
 replace H := Option.bind_eq_some_iff.mp H
 obtain ⟨⟨t296, t297⟩, A60, H⟩ := H
 replace H : (if t296 = 0 then (if 0 ≤ t294 then (if t294 ≤ (t293.size : Int) then (some (t293.extract 0 (t294 : Int).toNat)) else (none)) else (none)) else (if t296 = 1 then (if 0 ≤ t294 then (if t294 ≤ (t293.size : Int) then ((spec_l6Rd_of.f k t281 t297 (([(⟨#[48]⟩ : ByteArray), (⟨#[32]⟩ : ByteArray), (⟨#[49]⟩ : ByteArray), (⟨#[45]⟩ : ByteArray), (⟨#[32, 48]⟩ : ByteArray)] : List ByteArray))).bind fun bt301 => (if (t293.extract 0 (t294 : Int).toNat).size + bt301.1.size ≤ 9223372036854775807 then (if ((t293.extract 0 (t294 : Int).toNat) ++ bt301.1).size + (t293.extract (t294 : Int).toNat t293.size).size ≤ 9223372036854775807 then (some (((t293.extract 0 (t294 : Int).toNat) ++ bt301.1) ++ (t293.extract (t294 : Int).toNat t293.size))) else (none)) else (none))) else (none)) else (none)) else (some t293))) = some r := H
 have A6 := az A60
 clear A60
 by_cases c7 : t296 = 0
 ·rw [if_pos c7] at H
  have c7b0 : (t296 == 0) = true := beq_iff_eq.mpr c7
  have c7b1 : (t296 != 0) = false := bne_eq_false_iff_eq.mpr c7
  clear c7
  by_cases c8 : 0 ≤ t294
  ·rw [if_pos c8] at H
   have c8b0 := eq_true c8
   have c8b1 : decide (0 ≤ t294) = true := decide_eq_true c8
   clear c8
   by_cases c9 : t294 ≤ (t293.size : Int)
   ·rw [if_pos c9] at H
    have c9b0 := eq_true c9
    have c9b1 : decide (t294 ≤ (t293.size : Int)) = true := decide_eq_true c9
    clear c9
    obtain rfl := Option.some.inj H
    go_enter Tryd.func29, Tryd.ntmps29
    go_wp2_with (first | ((with_reducible refine gate_callee (f := 31) rfl ?_); refine goesL_ (some 7) rfl rfl Tryd.func31 (by kernel_rfl) rfl #[.slice A0 l0.length c0] rfl (by (try simp only [List.map_toArray, List.map_cons, List.map_nil]); first | done | rfl | (simp only [List.length_drop, List.length_take]; rfl)) ?_; (with_reducible refine (spec_l6Open.calls _ _ l0 t281 t282 w _ ?side1 ?side2 ?side3 A2.out).mono ?_); (case side1 => repeat (first | (with_reducible first | exact HB.out | apply wa | apply wn | apply wd) | exact HB.out)); (case side2 => exact HR0.out); (case side3 => exact HC0.out); rintro e w10 ⟨g283, rfl, hi, hb, hb2⟩; refine ⟨_, rfl, ?_⟩; replace HB := az (hb); have HI283 := az (hi); (try clear hb); (try clear hb2); (try clear hk); (try clear hi)) | ((with_reducible refine gate_callee (f := 47) rfl ?_); refine goesL_ (some 9) rfl rfl Tryd.func47 (by kernel_rfl) rfl #[.pointer (some ⟨g283, 0, none⟩)] rfl (by (try simp only [List.map_toArray, List.map_cons, List.map_nil]); first | done | rfl | (simp only [List.length_drop, List.length_take]; rfl)) ?_; (with_reducible refine (spec_l71Rec.calls k g283 t281 t282 t284 t285 t286 t287 t288 t289 t290 t291 t292 w _ ?side1 ?side2 A3.out).mono ?_); (case side1 => repeat (first | (with_reducible first | exact HI283.out | apply IsS80.alloc | apply IsS80.drewN | apply IsS80.drew | apply IsS80.set_1) | exact HI283.out)); (case side2 => repeat (first | (with_reducible first | exact HB.out | apply wa | apply wn | apply wd | refine below_set ?_ (IsS80.ge HI283.out)) | exact HB.out)); rintro e w11 ⟨rfl, hi, hb, hk⟩; refine ⟨_, rfl, ?_⟩; replace HB := az (hb); replace HI283 := az (hi); (try clear hb); (try clear hb2); (try clear hk); (try clear hi)) | ((with_reducible refine gate_callee (f := 20) rfl ?_); refine goesL_ (some 10) rfl rfl Tryd.func20 (by kernel_rfl) rfl #[.agg #[.int .i64 t284, .int .i64 t285, .int .i64 t286, .int .i64 t287, .int .i64 t288, .int .i64 t289, .int .i64 t290, .int .i64 t291]] rfl (by (try simp only [List.map_toArray, List.map_cons, List.map_nil]); first | done | rfl | (simp only [List.length_drop, List.length_take]; rfl)) ?_; (with_reducible refine (spec_RecText.calls k t284 t285 t286 t287 t288 t289 t290 t291 t293 _ A4.out).mono ?_); rintro e w12 ⟨rfl, hb⟩; refine ⟨_, rfl, ?_⟩; replace HB := az (below_step (by repeat (first | (with_reducible first | exact HB.out | apply wa | apply wn | apply wd | refine below_set ?_ (IsS80.ge HI283.out)) | exact HB.out)) hb); replace HI283 := az (IsS80.below (by repeat (first | (with_reducible first | exact HI283.out | apply IsS80.alloc | apply IsS80.drewN | apply IsS80.drew | apply IsS80.set_1) | exact HI283.out)) hb); (try clear hb); (try clear hb2); (try clear hk); (try clear hi)) | ((with_reducible refine gate_callee (f := 41) rfl ?_); refine goesL_ (some 15) rfl rfl Tryd.func41 (by kernel_rfl) rfl #[.pointer (some ⟨g283, 0, none⟩), .int .i64 (wrap64 ((t293.size : Int) + 1))] rfl (by (try simp only [List.map_toArray, List.map_cons, List.map_nil]); first | done | rfl | (simp only [List.length_drop, List.length_take]; rfl)) ?_; (with_reducible refine (spec_l6Rd_pick.calls k g283 t281 t292 (wrap64 ((t293.size : Int) + 1)) t294 t295 w _ ?side1 ?side2 A5.out).mono ?_); (case side1 => repeat (first | (with_reducible first | exact HI283.out | apply IsS80.alloc | apply IsS80.drewN | apply IsS80.drew | apply IsS80.set_1) | exact HI283.out)); (case side2 => repeat (first | (with_reducible first | exact HB.out | apply wa | apply wn | apply wd | refine below_set ?_ (IsS80.ge HI283.out)) | exact HB.out)); rintro e w13 ⟨rfl, hi, hb, hk⟩; refine ⟨_, rfl, ?_⟩; replace HB := az (hb); replace HI283 := az (hi); (try clear hb); (try clear hb2); (try clear hk); (try clear hi)) | ((with_reducible refine gate_callee (f := 41) rfl ?_); refine goesL_ (some 17) rfl rfl Tryd.func41 (by kernel_rfl) rfl #[.pointer (some ⟨g283, 0, none⟩), .int .i64 7] rfl (by (try simp only [List.map_toArray, List.map_cons, List.map_nil]); first | done | rfl | (simp only [List.length_drop, List.length_take]; rfl)) ?_; (with_reducible refine (spec_l6Rd_pick.calls k g283 t281 t295 7 t296 t297 w _ ?side1 ?side2 A6.out).mono ?_); (case side1 => repeat (first | (with_reducible first | exact HI283.out | apply IsS80.alloc | apply IsS80.drewN | apply IsS80.drew | apply IsS80.set_1) | exact HI283.out)); (case side2 => repeat (first | (with_reducible first | exact HB.out | apply wa | apply wn | apply wd | refine below_set ?_ (IsS80.ge HI283.out)) | exact HB.out)); rintro e w14 ⟨rfl, hi, hb, hk⟩; refine ⟨_, rfl, ?_⟩; replace HB := az (hb); replace HI283 := az (hi); (try clear hb); (try clear hb2); (try clear hk); (try clear hi)))
    go_ret
    exact ⟨by first | rfl | (simp [errW_none, errW_some] <;> rfl) | (simp [*, errW_none, errW_some] <;> rfl), by repeat (first | (with_reducible first | exact HB.out | apply wa | apply wn | apply wd | refine below_set ?_ (IsS80.ge HI283.out)) | exact HB.out)⟩
   ·rw [if_neg c9] at H
    exact absurd H (by simp)
  ·rw [if_neg c8] at H
   exact absurd H (by simp)
 ·rw [if_neg c7] at H
  have c7b0 : (t296 == 0) = false := beq_eq_false_iff_ne.mpr c7
  have c7b1 : (t296 != 0) = true := bne_iff_ne.mpr c7
  by_cases c15 : t296 = 1
  ·rw [if_pos c15] at H
   have c15b0 : (t296 == 1) = true := beq_iff_eq.mpr c15
   have c15b1 : (t296 != 1) = false := bne_eq_false_iff_eq.mpr c15
   clear c15
   by_cases c16 : 0 ≤ t294
   ·rw [if_pos c16] at H
    have c16b0 := eq_true c16
    have c16b1 : decide (0 ≤ t294) = true := decide_eq_true c16
    clear c16
    by_cases c17 : t294 ≤ (t293.size : Int)
    ·rw [if_pos c17] at H
     have c17b0 := eq_true c17
     have c17b1 : decide (t294 ≤ (t293.size : Int)) = true := decide_eq_true c17
     clear c17
     obtain ⟨y298, hy298⟩ : ∃ y_ : List ByteArray, y_ = (([(⟨#[48]⟩ : ByteArray), (⟨#[32]⟩ : ByteArray), (⟨#[49]⟩ : ByteArray), (⟨#[45]⟩ : ByteArray), (⟨#[32, 48]⟩ : ByteArray)] : List ByteArray)) := ⟨_, rfl⟩
     replace H : ((spec_l6Rd_of.f k t281 t297 y298).bind fun bt301 => (if (t293.extract 0 (t294 : Int).toNat).size + bt301.1.size ≤ 9223372036854775807 then (if ((t293.extract 0 (t294 : Int).toNat) ++ bt301.1).size + (t293.extract (t294 : Int).toNat t293.size).size ≤ 9223372036854775807 then (some (((t293.extract 0 (t294 : Int).toNat) ++ bt301.1) ++ (t293.extract (t294 : Int).toNat t293.size))) else (none)) else (none))) = some r := by first | (rw [hy298]; with_reducible exact H) | (have H2_ := (Option.bind_some _ _).symm.trans H; rw [hy298]; with_reducible exact H2_) | (have H2_ := (Option.bind_some _ _).symm.trans H; with_reducible exact H2_) | with_reducible exact H | (rw [hy298]; exact H) | exact H
     have Ny298 := az hy298
     clear hy298
     replace H := Option.bind_eq_some_iff.mp H
     obtain ⟨⟨t301, t302⟩, A180, H⟩ := H
     replace H : (if (t293.extract 0 (t294 : Int).toNat).size + t301.size ≤ 9223372036854775807 then (if ((t293.extract 0 (t294 : Int).toNat) ++ t301).size + (t293.extract (t294 : Int).toNat t293.size).size ≤ 9223372036854775807 then (some (((t293.extract 0 (t294 : Int).toNat) ++ t301) ++ (t293.extract (t294 : Int).toNat t293.size))) else (none)) else (none)) = some r := H
     have A18 := az A180
     clear A180
     by_cases c19 : (t293.extract 0 (t294 : Int).toNat).size + t301.size ≤ 9223372036854775807
     ·rw [if_pos c19] at H
      have c19b0 := eq_true c19
      have c19b1 : decide ((t293.extract 0 (t294 : Int).toNat).size + t301.size ≤ 9223372036854775807) = true := decide_eq_true c19
      try have c19b2 : (9223372036854775807 < (t293.extract 0 (t294 : Int).toNat).size + t301.size) = False := eq_false (Nat.not_lt.2 c19)
      have hz0_ := of_eq_true c17b0
      have hz9_ := of_eq_true c16b0
      have hz1_ : (t293.extract 0 (t294 : Int).toNat).size = (t294 : Int).toNat := by rw [ByteArray.size_extract]; omega
      have hz2_ := eq_false (show ¬ 9223372036854775807 < (t294 : Int).toNat + t301.size by rw [← hz1_]; omega)
      have c20b0 := eq_true (of_decide_eq_true (by first | (with_reducible assumption) | assumption) : 0 ≤ t294)
      have c21b0 := eq_true (of_decide_eq_true (by first | (with_reducible assumption) | assumption) : t294 ≤ (t293.size : Int))
      by_cases c22 : ((t293.extract 0 (t294 : Int).toNat) ++ t301).size + (t293.extract (t294 : Int).toNat t293.size).size ≤ 9223372036854775807
      ·rw [if_pos c22] at H
       have c22b0 := eq_true c22
       have c22b1 : decide (((t293.extract 0 (t294 : Int).toNat) ++ t301).size + (t293.extract (t294 : Int).toNat t293.size).size ≤ 9223372036854775807) = true := decide_eq_true c22
       try have c22b2 : (9223372036854775807 < ((t293.extract 0 (t294 : Int).toNat) ++ t301).size + (t293.extract (t294 : Int).toNat t293.size).size) = False := eq_false (Nat.not_lt.2 c22)
       have hz3_ : (t293.extract (t294 : Int).toNat t293.size).size = t293.size - (t294 : Int).toNat := by rw [ByteArray.size_extract]; omega
       have hz4_ := eq_false (show ¬ 9223372036854775807 < (t294 : Int).toNat + t301.size + (t293.size - (t294 : Int).toNat) by have h_ := c22; rw [ByteArray.size_append, hz1_, hz3_] at h_; omega)
       obtain rfl := Option.some.inj H
       go_enter Tryd.func29, Tryd.ntmps29
       try go_wp2_with (first | ((with_reducible refine gate_callee (f := 31) rfl ?_); refine goesL_ (some 7) rfl rfl Tryd.func31 (by kernel_rfl) rfl #[.slice A0 l0.length c0] rfl (by (try simp only [List.map_toArray, List.map_cons, List.map_nil]); first | done | rfl | (simp only [List.length_drop, List.length_take]; rfl)) ?_; (with_reducible refine (spec_l6Open.calls _ _ l0 t281 t282 w _ ?side1 ?side2 ?side3 A2.out).mono ?_); (case side1 => repeat (first | (with_reducible first | exact HB.out | apply wa | apply wn | apply wd) | exact HB.out)); (case side2 => exact HR0.out); (case side3 => exact HC0.out); rintro e w23 ⟨g283, rfl, hi, hb, hb2⟩; refine ⟨_, rfl, ?_⟩; replace HB := az (hb); have HI283 := az (hi); (try clear hb); (try clear hb2); (try clear hk); (try clear hi)) | ((with_reducible refine gate_callee (f := 47) rfl ?_); refine goesL_ (some 9) rfl rfl Tryd.func47 (by kernel_rfl) rfl #[.pointer (some ⟨g283, 0, none⟩)] rfl (by (try simp only [List.map_toArray, List.map_cons, List.map_nil]); first | done | rfl | (simp only [List.length_drop, List.length_take]; rfl)) ?_; (with_reducible refine (spec_l71Rec.calls k g283 t281 t282 t284 t285 t286 t287 t288 t289 t290 t291 t292 w _ ?side1 ?side2 A3.out).mono ?_); (case side1 => repeat (first | (with_reducible first | exact HI283.out | apply IsS80.alloc | apply IsS80.drewN | apply IsS80.drew | apply IsS80.set_1) | exact HI283.out)); (case side2 => repeat (first | (with_reducible first | exact HB.out | apply wa | apply wn | apply wd | refine below_set ?_ (IsS80.ge HI283.out)) | exact HB.out)); rintro e w24 ⟨rfl, hi, hb, hk⟩; refine ⟨_, rfl, ?_⟩; replace HB := az (hb); replace HI283 := az (hi); (try clear hb); (try clear hb2); (try clear hk); (try clear hi)) | ((with_reducible refine gate_callee (f := 20) rfl ?_); refine goesL_ (some 10) rfl rfl Tryd.func20 (by kernel_rfl) rfl #[.agg #[.int .i64 t284, .int .i64 t285, .int .i64 t286, .int .i64 t287, .int .i64 t288, .int .i64 t289, .int .i64 t290, .int .i64 t291]] rfl (by (try simp only [List.map_toArray, List.map_cons, List.map_nil]); first | done | rfl | (simp only [List.length_drop, List.length_take]; rfl)) ?_; (with_reducible refine (spec_RecText.calls k t284 t285 t286 t287 t288 t289 t290 t291 t293 _ A4.out).mono ?_); rintro e w25 ⟨rfl, hb⟩; refine ⟨_, rfl, ?_⟩; replace HB := az (below_step (by repeat (first | (with_reducible first | exact HB.out | apply wa | apply wn | apply wd | refine below_set ?_ (IsS80.ge HI283.out)) | exact HB.out)) hb); replace HI283 := az (IsS80.below (by repeat (first | (with_reducible first | exact HI283.out | apply IsS80.alloc | apply IsS80.drewN | apply IsS80.drew | apply IsS80.set_1) | exact HI283.out)) hb); (try clear hb); (try clear hb2); (try clear hk); (try clear hi)) | ((with_reducible refine gate_callee (f := 41) rfl ?_); refine goesL_ (some 15) rfl rfl Tryd.func41 (by kernel_rfl) rfl #[.pointer (some ⟨g283, 0, none⟩), .int .i64 (wrap64 ((t293.size : Int) + 1))] rfl (by (try simp only [List.map_toArray, List.map_cons, List.map_nil]); first | done | rfl | (simp only [List.length_drop, List.length_take]; rfl)) ?_; (with_reducible refine (spec_l6Rd_pick.calls k g283 t281 t292 (wrap64 ((t293.size : Int) + 1)) t294 t295 w _ ?side1 ?side2 A5.out).mono ?_); (case side1 => repeat (first | (with_reducible first | exact HI283.out | apply IsS80.alloc | apply IsS80.drewN | apply IsS80.drew | apply IsS80.set_1) | exact HI283.out)); (case side2 => repeat (first | (with_reducible first | exact HB.out | apply wa | apply wn | apply wd | refine below_set ?_ (IsS80.ge HI283.out)) | exact HB.out)); rintro e w26 ⟨rfl, hi, hb, hk⟩; refine ⟨_, rfl, ?_⟩; replace HB := az (hb); replace HI283 := az (hi); (try clear hb); (try clear hb2); (try clear hk); (try clear hi)) | ((with_reducible refine gate_callee (f := 41) rfl ?_); refine goesL_ (some 17) rfl rfl Tryd.func41 (by kernel_rfl) rfl #[.pointer (some ⟨g283, 0, none⟩), .int .i64 7] rfl (by (try simp only [List.map_toArray, List.map_cons, List.map_nil]); first | done | rfl | (simp only [List.length_drop, List.length_take]; rfl)) ?_; (with_reducible refine (spec_l6Rd_pick.calls k g283 t281 t295 7 t296 t297 w _ ?side1 ?side2 A6.out).mono ?_); (case side1 => repeat (first | (with_reducible first | exact HI283.out | apply IsS80.alloc | apply IsS80.drewN | apply IsS80.drew | apply IsS80.set_1) | exact HI283.out)); (case side2 => repeat (first | (with_reducible first | exact HB.out | apply wa | apply wn | apply wd | refine below_set ?_ (IsS80.ge HI283.out)) | exact HB.out)); rintro e w27 ⟨rfl, hi, hb, hk⟩; refine ⟨_, rfl, ?_⟩; replace HB := az (hb); replace HI283 := az (hi); (try clear hb); (try clear hb2); (try clear hk); (try clear hi)))
       replace HI283 := az (IsS80.drew HI283.out)
       replace HB := az (wd HB.out)
       refine start_ (n := 12) (S := fun w' => True) (ds := []) #[false, false, false, false, false, false, false, false, false, false, false, false] (by kernel_rfl) rfl rfl trivial (fun hHeld => ?_); refine with_tabW spec_DrawRecRead.tab8 spec_DrawRecRead.bits8 (fun HT_ HW_ => ?_)
       generalize w27.drew = w28 at HI283 HB hHeld ⊢
       refine pure_ (i := 0) (N := some 25) (v := ?_) (a' := ?_) #[true, false, false, false, false, false, false, false, false, false, false, false] rfl rfl (any_of HT_.out (by kernel_rfl)) (fun _ _ _ h => h) (Or.inl ⟨by rfl, ?_⟩) ?_ ?_
       rotate_left
       ·intro w'
        go_simp
        with_reducible rfl
       rotate_left
       ·simp only [Act.put, List.setIfInBounds_toArray, List.set_cons_zero, List.set_cons_succ, i64_w, i32_w]
        rfl
       refine pure_ (i := 1) (N := some 26) (v := ?_) (a' := ?_) #[true, true, false, false, false, false, false, false, false, false, false, false] rfl rfl (any_of HT_.out (by kernel_rfl)) (fun _ _ _ h => h) (Or.inl ⟨by rfl, ?_⟩) ?_ ?_
       rotate_left
       ·intro w'
        go_simp
        with_reducible rfl
       rotate_left
       ·simp only [Act.put, List.setIfInBounds_toArray, List.set_cons_zero, List.set_cons_succ, i64_w, i32_w]
        rfl
       refine pure_ (i := 2) (N := some 27) (v := ?_) (a' := ?_) #[true, true, true, false, false, false, false, false, false, false, false, false] rfl rfl (any_of HT_.out (by kernel_rfl)) (fun _ _ _ h => h) (Or.inl ⟨by rfl, ?_⟩) ?_ ?_
       rotate_left
       ·intro w'
        go_simp
        with_reducible rfl
       rotate_left
       ·simp only [Act.put, List.setIfInBounds_toArray, List.set_cons_zero, List.set_cons_succ, i64_w, i32_w]
        rfl
       refine pure_ (i := 3) (N := some 28) (v := ?_) (a' := ?_) #[true, true, true, true, false, false, false, false, false, false, false, false] rfl rfl (any_of HT_.out (by kernel_rfl)) (fun _ _ _ h => h) (Or.inl ⟨by rfl, ?_⟩) ?_ ?_
       rotate_left
       ·intro w'
        go_simp
        with_reducible rfl
       rotate_left
       ·simp only [Act.put, List.setIfInBounds_toArray, List.set_cons_zero, List.set_cons_succ, i64_w, i32_w]
        rfl
       refine pure_ (i := 7) (N := some 32) (v := ?_) (a' := ?_) #[true, true, true, true, false, false, false, true, false, false, false, false] rfl rfl (any_of HT_.out (by kernel_rfl)) (fun _ _ _ h => h) (Or.inl ⟨by rfl, ?_⟩) ?_ ?_
       rotate_left
       ·intro w'
        go_simp
        with_reducible rfl
       rotate_left
       ·simp only [Act.put, List.setIfInBounds_toArray, List.set_cons_zero, List.set_cons_succ, i64_w, i32_w]
        rfl
       refine pure_ (i := 8) (N := some 33) (v := ?_) (a' := ?_) #[true, true, true, true, false, false, false, true, true, false, false, false] rfl rfl (any_of HT_.out (by kernel_rfl)) (fun _ _ _ h => h) (Or.inl ⟨by rfl, ?_⟩) ?_ ?_
       rotate_left
       ·intro w'
        go_simp
        with_reducible rfl
       rotate_left
       ·simp only [Act.put, List.setIfInBounds_toArray, List.set_cons_zero, List.set_cons_succ, i64_w, i32_w]
        rfl
       refine pure_ (i := 9) (N := some 34) (v := ?_) (a' := ?_) #[true, true, true, true, false, false, false, true, true, true, false, false] rfl rfl (any_of HT_.out (by kernel_rfl)) (fun _ _ _ h => h) (Or.inl ⟨by rfl, ?_⟩) ?_ ?_
       rotate_left
       ·intro w'
        go_simp
        with_reducible rfl
       rotate_left
       ·simp only [Act.put, List.setIfInBounds_toArray, List.set_cons_zero, List.set_cons_succ, i64_w, i32_w]
        rfl
       refine one_ (i := 4) (N := some 29) #[true, true, true, true, true, false, false, true, true, true, false, false] rfl rfl (one_of HT_.out (by kernel_rfl)) (by decide) (fun K hK => ?_)
       refine Kd.R_lit_step Kd.string _ 9 ?hg (N := 29) ?hd (xs := ([(⟨#[48]⟩ : ByteArray), (⟨#[32]⟩ : ByteArray), (⟨#[49]⟩ : ByteArray), (⟨#[45]⟩ : ByteArray), (⟨#[32, 48]⟩ : ByteArray)] : List ByteArray)) (inner := [.string (⟨#[48]⟩ : ByteArray), .string (⟨#[32]⟩ : ByteArray), .string (⟨#[49]⟩ : ByteArray), .string (⟨#[45]⟩ : ByteArray), .string (⟨#[32, 48]⟩ : ByteArray)]) (ok := fun _ => True) (okp := fun _ => True) ?hr ?hp (fun _ hk => hk) trivial (Below.refl _ _) (Nat.le_refl _) (by simp) ?_; (case hd => rfl); (case hg => rfl); (case hr => first | (go_simp; done) | (go_simp; rfl)); (case hp => exact (Reps.one (show Kd.M Kd.string _ _ _ (⟨#[48]⟩ : ByteArray) [.string (⟨#[48]⟩ : ByteArray)] from rfl) (Reps.one (show Kd.M Kd.string _ _ _ (⟨#[32]⟩ : ByteArray) [.string (⟨#[32]⟩ : ByteArray)] from rfl) (Reps.one (show Kd.M Kd.string _ _ _ (⟨#[49]⟩ : ByteArray) [.string (⟨#[49]⟩ : ByteArray)] from rfl) (Reps.one (show Kd.M Kd.string _ _ _ (⟨#[45]⟩ : ByteArray) [.string (⟨#[45]⟩ : ByteArray)] from rfl) (Reps.one (show Kd.M Kd.string _ _ _ (⟨#[32, 48]⟩ : ByteArray) [.string (⟨#[32, 48]⟩ : ByteArray)] from rfl) (Reps.none _ _)))))))
       intro v299 w29 ho30 hb hg_ hnew_
       clear hg_ hnew_
       (first | rw [← Ny298.out] at ho30 | (simp only [Int.reduceToNat] at ho30; rw [← Ny298.out] at ho30))
       have HO300 := az (Kd.R_lower ho30 (below_size (by repeat (first | (with_reducible first | exact HB.out | apply wa | apply wn | apply wd | refine below_set ?_ (IsS80.ge HI283.out)) | exact HB.out))))
       replace HB := az (below_step (by repeat (first | (with_reducible first | exact HB.out | apply wa | apply wn | apply wd | refine below_set ?_ (IsS80.ge HI283.out)) | exact HB.out)) hb)
       replace HI283 := az (IsS80.below (by repeat (first | (with_reducible first | exact HI283.out | apply IsS80.alloc | apply IsS80.drewN | apply IsS80.drew | apply IsS80.set_1) | exact HI283.out)) hb)
       clear hb ho30
       obtain ⟨Ao31, co31, eo31⟩ := Kd.R_slice HO300.out
       (first | subst eo31 | (injection eo31 with f1_ f2_ f3_; have f4_ := f1_.symm; have f5_ := f3_.symm; clear f1_ f2_ f3_; subst f4_; subst f5_))
       refine hK.out _ _ trivial (fun hHeld => ?_)
       clear hK K
       refine norm_ (a' := ?_) ?_ ?_
       rotate_left
       ·show Act.put _ (some 29) _ = _
        simp only [Act.put, List.setIfInBounds_toArray, List.set_cons_zero, List.set_cons_succ, i64_w, i32_w]
        rfl
       refine one_ (i := 5) (N := some 30) #[true, true, true, true, true, true, false, true, true, true, false, false] rfl rfl (one_of HT_.out (by kernel_rfl)) (by decide) (fun K hK => ?_)
       refine goes_ Tryd.func56 (by kernel_rfl) rfl #[.pointer (some ⟨g283, 0, none⟩), .slice Ao31 y298.length co31] (by rfl) rfl rfl (by (try simp only [List.map_toArray, List.map_cons, List.map_nil]); first | done | rfl | (simp only [List.length_drop, List.length_take]; rfl)) ?_
       with_reducible refine (spec_l6Rd_of.calls k g283 t281 t297 _ _ y298 t301 t302 w _ ?side1 ?side2 ?side3 ?side4 ?side5 A18.out).mono ?_
       (case side1 => repeat (first | (with_reducible first | exact HI283.out | apply IsS80.alloc | apply IsS80.drewN | apply IsS80.drew | apply IsS80.set_1) | exact HI283.out))
       (case side2 => repeat (first | (with_reducible first | exact HB.out | apply wa | apply wn | apply wd | refine below_set ?_ (IsS80.ge HI283.out)) | exact HB.out))
       (case side3 => repeat (first | exact (Kd.R_reads' HO300.out).2.2 | (with_reducible refine Kd.C_alloc ?_ _) | (with_reducible refine Kd.C_drewN ?_ _) | (with_reducible refine Kd.C_drew ?_)))
       (case side4 => exact (Kd.R_reads' HO300.out).2.1)
       (case side5 => exact far_slice (IsS80.own_ne HI283.out HO300.out (by decide)))
       rintro e w32 ⟨rfl, hi, hb, hk⟩
       refine ⟨_, rfl, ?_⟩
       replace HO300 := az (Kd.R_mono (Kd.R_keep (IsS80.apart (show IsS80 w _ g283 t281 t297 from by repeat (first | (with_reducible first | exact HI283.out | apply IsS80.alloc | apply IsS80.drewN | apply IsS80.drew | apply IsS80.set_1) | exact HI283.out)) (by (with_reducible repeat (first | apply Kd.R_alloc | apply Kd.R_drewN | apply Kd.R_drew)); exact HO300.out) (by decide)) hk (fun _ h => h.2)) (fun _ h => h.1))
       replace HB := az (hb)
       replace HI283 := az (hi)
       (try clear hb);(try clear hb2);(try clear hk);(try clear hi)
       refine hK.out _ _ trivial (fun hHeld => ?_)
       clear hK K
       refine norm_ (a' := ?_) ?_ ?_
       rotate_left
       ·show Act.put _ (some 30) _ = _
        simp only [Act.put, List.setIfInBounds_toArray, List.set_cons_zero, List.set_cons_succ, i64_w, i32_w]
        rfl
       refine pure_ (i := 6) (N := some 31) (v := ?_) (a' := ?_) #[true, true, true, true, true, true, true, true, true, true, false, false] rfl rfl (any_of HT_.out (by kernel_rfl)) (fun _ _ _ h => h) (Or.inl ⟨by rfl, ?_⟩) ?_ ?_
       rotate_left
       ·intro w'
        go_simp
        with_reducible rfl
       rotate_left
       ·simp only [Act.put, List.setIfInBounds_toArray, List.set_cons_zero, List.set_cons_succ, i64_w, i32_w]
        rfl
       refine pure_ (i := 10) (N := some 35) (v := ?_) (a' := ?_) #[true, true, true, true, true, true, true, true, true, true, true, false] rfl rfl (any_of HT_.out (by kernel_rfl)) (fun _ _ _ h => h) (Or.inl ⟨by rfl, ?_⟩) ?_ ?_
       rotate_left
       ·intro w'
        go_simp
        with_reducible rfl
       rotate_left
       ·simp only [Act.put, List.setIfInBounds_toArray, List.set_cons_zero, List.set_cons_succ, i64_w, i32_w]
        rfl
       refine pure_ (i := 11) (N := some 2) (v := ?_) (a' := ?_) #[true, true, true, true, true, true, true, true, true, true, true, true] rfl rfl (any_of HT_.out (by kernel_rfl)) (fun _ _ _ h => h) (Or.inl ⟨by rfl, ?_⟩) ?_ ?_
       rotate_left
       ·intro w'
        go_simp
        with_reducible rfl
       rotate_left
       ·simp only [Act.put, List.setIfInBounds_toArray, List.set_cons_zero, List.set_cons_succ, i64_w, i32_w]
        rfl
       refine done_ (done_of HT_.out (by kernel_rfl)) ?_
       try go_wp2
       go_ret
       exact ⟨by first | rfl | (simp [errW_none, errW_some] <;> rfl) | (simp [*, errW_none, errW_some] <;> rfl), by repeat (first | (with_reducible first | exact HB.out | apply wa | apply wn | apply wd | refine below_set ?_ (IsS80.ge HI283.out)) | exact HB.out)⟩
      ·rw [if_neg c22] at H
       exact absurd H (by simp)
     ·rw [if_neg c19] at H
      exact absurd H (by simp)
    ·rw [if_neg c17] at H
     exact absurd H (by simp)
   ·rw [if_neg c16] at H
    exact absurd H (by simp)
  ·rw [if_neg c15] at H
   have c15b0 : (t296 == 1) = false := beq_eq_false_iff_ne.mpr c15
   have c15b1 : (t296 != 1) = true := bne_iff_ne.mpr c15
   obtain rfl := Option.some.inj H
   go_enter Tryd.func29, Tryd.ntmps29
   go_wp2_with (first | ((with_reducible refine gate_callee (f := 31) rfl ?_); refine goesL_ (some 7) rfl rfl Tryd.func31 (by kernel_rfl) rfl #[.slice A0 l0.length c0] rfl (by (try simp only [List.map_toArray, List.map_cons, List.map_nil]); first | done | rfl | (simp only [List.length_drop, List.length_take]; rfl)) ?_; (with_reducible refine (spec_l6Open.calls _ _ l0 t281 t282 w _ ?side1 ?side2 ?side3 A2.out).mono ?_); (case side1 => repeat (first | (with_reducible first | exact HB.out | apply wa | apply wn | apply wd) | exact HB.out)); (case side2 => exact HR0.out); (case side3 => exact HC0.out); rintro e w33 ⟨g283, rfl, hi, hb, hb2⟩; refine ⟨_, rfl, ?_⟩; replace HB := az (hb); have HI283 := az (hi); (try clear hb); (try clear hb2); (try clear hk); (try clear hi)) | ((with_reducible refine gate_callee (f := 47) rfl ?_); refine goesL_ (some 9) rfl rfl Tryd.func47 (by kernel_rfl) rfl #[.pointer (some ⟨g283, 0, none⟩)] rfl (by (try simp only [List.map_toArray, List.map_cons, List.map_nil]); first | done | rfl | (simp only [List.length_drop, List.length_take]; rfl)) ?_; (with_reducible refine (spec_l71Rec.calls k g283 t281 t282 t284 t285 t286 t287 t288 t289 t290 t291 t292 w _ ?side1 ?side2 A3.out).mono ?_); (case side1 => repeat (first | (with_reducible first | exact HI283.out | apply IsS80.alloc | apply IsS80.drewN | apply IsS80.drew | apply IsS80.set_1) | exact HI283.out)); (case side2 => repeat (first | (with_reducible first | exact HB.out | apply wa | apply wn | apply wd | refine below_set ?_ (IsS80.ge HI283.out)) | exact HB.out)); rintro e w34 ⟨rfl, hi, hb, hk⟩; refine ⟨_, rfl, ?_⟩; replace HB := az (hb); replace HI283 := az (hi); (try clear hb); (try clear hb2); (try clear hk); (try clear hi)) | ((with_reducible refine gate_callee (f := 20) rfl ?_); refine goesL_ (some 10) rfl rfl Tryd.func20 (by kernel_rfl) rfl #[.agg #[.int .i64 t284, .int .i64 t285, .int .i64 t286, .int .i64 t287, .int .i64 t288, .int .i64 t289, .int .i64 t290, .int .i64 t291]] rfl (by (try simp only [List.map_toArray, List.map_cons, List.map_nil]); first | done | rfl | (simp only [List.length_drop, List.length_take]; rfl)) ?_; (with_reducible refine (spec_RecText.calls k t284 t285 t286 t287 t288 t289 t290 t291 t293 _ A4.out).mono ?_); rintro e w35 ⟨rfl, hb⟩; refine ⟨_, rfl, ?_⟩; replace HB := az (below_step (by repeat (first | (with_reducible first | exact HB.out | apply wa | apply wn | apply wd | refine below_set ?_ (IsS80.ge HI283.out)) | exact HB.out)) hb); replace HI283 := az (IsS80.below (by repeat (first | (with_reducible first | exact HI283.out | apply IsS80.alloc | apply IsS80.drewN | apply IsS80.drew | apply IsS80.set_1) | exact HI283.out)) hb); (try clear hb); (try clear hb2); (try clear hk); (try clear hi)) | ((with_reducible refine gate_callee (f := 41) rfl ?_); refine goesL_ (some 15) rfl rfl Tryd.func41 (by kernel_rfl) rfl #[.pointer (some ⟨g283, 0, none⟩), .int .i64 (wrap64 ((t293.size : Int) + 1))] rfl (by (try simp only [List.map_toArray, List.map_cons, List.map_nil]); first | done | rfl | (simp only [List.length_drop, List.length_take]; rfl)) ?_; (with_reducible refine (spec_l6Rd_pick.calls k g283 t281 t292 (wrap64 ((t293.size : Int) + 1)) t294 t295 w _ ?side1 ?side2 A5.out).mono ?_); (case side1 => repeat (first | (with_reducible first | exact HI283.out | apply IsS80.alloc | apply IsS80.drewN | apply IsS80.drew | apply IsS80.set_1) | exact HI283.out)); (case side2 => repeat (first | (with_reducible first | exact HB.out | apply wa | apply wn | apply wd | refine below_set ?_ (IsS80.ge HI283.out)) | exact HB.out)); rintro e w36 ⟨rfl, hi, hb, hk⟩; refine ⟨_, rfl, ?_⟩; replace HB := az (hb); replace HI283 := az (hi); (try clear hb); (try clear hb2); (try clear hk); (try clear hi)) | ((with_reducible refine gate_callee (f := 41) rfl ?_); refine goesL_ (some 17) rfl rfl Tryd.func41 (by kernel_rfl) rfl #[.pointer (some ⟨g283, 0, none⟩), .int .i64 7] rfl (by (try simp only [List.map_toArray, List.map_cons, List.map_nil]); first | done | rfl | (simp only [List.length_drop, List.length_take]; rfl)) ?_; (with_reducible refine (spec_l6Rd_pick.calls k g283 t281 t295 7 t296 t297 w _ ?side1 ?side2 A6.out).mono ?_); (case side1 => repeat (first | (with_reducible first | exact HI283.out | apply IsS80.alloc | apply IsS80.drewN | apply IsS80.drew | apply IsS80.set_1) | exact HI283.out)); (case side2 => repeat (first | (with_reducible first | exact HB.out | apply wa | apply wn | apply wd | refine below_set ?_ (IsS80.ge HI283.out)) | exact HB.out)); rintro e w37 ⟨rfl, hi, hb, hk⟩; refine ⟨_, rfl, ?_⟩; replace HB := az (hb); replace HI283 := az (hi); (try clear hb); (try clear hb2); (try clear hk); (try clear hi)))
   go_ret
   exact ⟨by first | rfl | (simp [errW_none, errW_some] <;> rfl) | (simp [*, errW_none, errW_some] <;> rfl), by repeat (first | (with_reducible first | exact HB.out | apply wa | apply wn | apply wd | refine below_set ?_ (IsS80.ge HI283.out)) | exact HB.out)⟩


end Go.Proofs.YtajdjoggflagdaaDoor.Pr
