-- Laid by a program (extract.py) out of this seat's translation: contracts of a few functions, a text a function; Lean checks them.
import Derived.Test.YtajdjoggflagdaaDoorPrK
import Derived.Test.YtajdjoggflagdaaDoorPrPT
import Derived.Test.YtajdjoggflagdaaDoorSw
namespace Go.Proofs.YtajdjoggflagdaaDoor.Pr
open Go.RowKit Go.Proofs.YtajdjoggflagdaaDoorW.PrintWords Go.Proofs.YtajdjoggflagdaaDoorW.PrintLast Go.Proofs.YtajdjoggflagdaaDoorW.PrintMore
attribute [local go_sem] max2_int min2_int max_two min_two max_three min_three max_four min_four
set_option linter.unusedVariables false
set_option linter.unusedSimpArgs false
/-! ### spec_l2Names: function 44 -/
def spec_l2Names.f  : Option (List ByteArray) := some (([(⟨#[]⟩ : ByteArray), (⟨#[112, 117, 116]⟩ : ByteArray), (⟨#[111, 119, 110]⟩ : ByteArray), (⟨#[108, 111, 97, 100]⟩ : ByteArray), (⟨#[100, 111, 110, 101]⟩ : ByteArray), (⟨#[101, 110, 100]⟩ : ByteArray), (⟨#[117, 110, 100, 111]⟩ : ByteArray)] : List ByteArray))
set_option maxHeartbeats 8000000 in
set_option maxRecDepth 100000 in
theorem spec_l2Names.calls  (r : List ByteArray) (w : World) (h : spec_l2Names.f  = some r) :
    Calls Tryd.prog 44 #[] w fun e w' => ∃ v0_ : Value, e = .returned (v0_) ∧ Kd.R Kd.string 9 w' w.heap.size (fun _ => True) v0_ r ∧ Below w.heap.size w w' := by
  have HB := Aside0.mk (Below.refl w.heap.size w)
  have H : (some (([(⟨#[]⟩ : ByteArray), (⟨#[112, 117, 116]⟩ : ByteArray), (⟨#[111, 119, 110]⟩ : ByteArray), (⟨#[108, 111, 97, 100]⟩ : ByteArray), (⟨#[100, 111, 110, 101]⟩ : ByteArray), (⟨#[101, 110, 100]⟩ : ByteArray), (⟨#[117, 110, 100, 111]⟩ : ByteArray)] : List ByteArray))) = some r := h
  clear h
  obtain ⟨y293, hy293⟩ : ∃ y_ : List ByteArray, y_ = (([(⟨#[]⟩ : ByteArray), (⟨#[112, 117, 116]⟩ : ByteArray), (⟨#[111, 119, 110]⟩ : ByteArray), (⟨#[108, 111, 97, 100]⟩ : ByteArray), (⟨#[100, 111, 110, 101]⟩ : ByteArray), (⟨#[101, 110, 100]⟩ : ByteArray), (⟨#[117, 110, 100, 111]⟩ : ByteArray)] : List ByteArray)) := ⟨_, rfl⟩
  replace H : (some y293) = some r := by first | (rw [hy293]; with_reducible exact H) | (have H2_ := (Option.bind_some _ _).symm.trans H; rw [hy293]; with_reducible exact H2_) | (have H2_ := (Option.bind_some _ _).symm.trans H; with_reducible exact H2_) | with_reducible exact H | (rw [hy293]; exact H) | exact H
  have Ny293 := Aside0.mk hy293
  clear hy293
  obtain rfl := Option.some.inj H
  go_enter Tryd.func44, Tryd.ntmps44
  go_wp2_with (first | ((with_reducible refine gate_dst (N := 1) rfl ?_); refine Kd.R_lit Kd.string _ 9 ?hg (N := 1) ?hd (xs := ([(⟨#[]⟩ : ByteArray), (⟨#[112, 117, 116]⟩ : ByteArray), (⟨#[111, 119, 110]⟩ : ByteArray), (⟨#[108, 111, 97, 100]⟩ : ByteArray), (⟨#[100, 111, 110, 101]⟩ : ByteArray), (⟨#[101, 110, 100]⟩ : ByteArray), (⟨#[117, 110, 100, 111]⟩ : ByteArray)] : List ByteArray)) (inner := [.string (⟨#[]⟩ : ByteArray), .string (⟨#[112, 117, 116]⟩ : ByteArray), .string (⟨#[111, 119, 110]⟩ : ByteArray), .string (⟨#[108, 111, 97, 100]⟩ : ByteArray), .string (⟨#[100, 111, 110, 101]⟩ : ByteArray), .string (⟨#[101, 110, 100]⟩ : ByteArray), .string (⟨#[117, 110, 100, 111]⟩ : ByteArray)]) (ok := fun _ => True) (okp := fun _ => True) ?hr ?hp (fun _ hk => hk) trivial (Below.refl _ _) (Nat.le_refl _) (by simp) ?_; (case hd => rfl); (case hg => rfl); (case hr => first | (go_simp; done) | (go_simp; rfl)); (case hp => exact (Reps.one (show Kd.M Kd.string _ _ _ (⟨#[]⟩ : ByteArray) [.string (⟨#[]⟩ : ByteArray)] from rfl) (Reps.one (show Kd.M Kd.string _ _ _ (⟨#[112, 117, 116]⟩ : ByteArray) [.string (⟨#[112, 117, 116]⟩ : ByteArray)] from rfl) (Reps.one (show Kd.M Kd.string _ _ _ (⟨#[111, 119, 110]⟩ : ByteArray) [.string (⟨#[111, 119, 110]⟩ : ByteArray)] from rfl) (Reps.one (show Kd.M Kd.string _ _ _ (⟨#[108, 111, 97, 100]⟩ : ByteArray) [.string (⟨#[108, 111, 97, 100]⟩ : ByteArray)] from rfl) (Reps.one (show Kd.M Kd.string _ _ _ (⟨#[100, 111, 110, 101]⟩ : ByteArray) [.string (⟨#[100, 111, 110, 101]⟩ : ByteArray)] from rfl) (Reps.one (show Kd.M Kd.string _ _ _ (⟨#[101, 110, 100]⟩ : ByteArray) [.string (⟨#[101, 110, 100]⟩ : ByteArray)] from rfl) (Reps.one (show Kd.M Kd.string _ _ _ (⟨#[117, 110, 100, 111]⟩ : ByteArray) [.string (⟨#[117, 110, 100, 111]⟩ : ByteArray)] from rfl) (Reps.none _ _))))))))); intro v294 w1 ho2 hb hg_ hnew_; clear hg_ hnew_; (first | rw [← Ny293.out] at ho2 | (simp only [Int.reduceToNat] at ho2; rw [← Ny293.out] at ho2)); have n0_ := Aside0.mk (Kd.R_lower ho2 (below_size (by repeat (first | (with_reducible first | exact HB.out | apply below_alloc | apply pw_below_drewN | apply below_drew1) | exact HB.out)))); have n1_ := Aside0.mk (below_step (by repeat (first | (with_reducible first | exact HB.out | apply below_alloc | apply pw_below_drewN | apply below_drew1) | exact HB.out)) hb); clear HB; have HO295 := n0_; have HB := n1_; clear n0_ n1_; clear hb ho2))
  go_ret
  exact ⟨_, by first | rfl | (simp [errW_none, errW_some] <;> rfl) | (simp [*, errW_none, errW_some] <;> rfl), by (with_reducible repeat (first | apply Kd.R_alloc | apply Kd.R_drewN | apply Kd.R_drew)); exact HO295.out, by repeat (first | (with_reducible first | exact HB.out | apply below_alloc | apply pw_below_drewN | apply below_drew1) | exact HB.out)⟩



/-! ### spec_RecText: function 20 -/
def spec_RecText.f (k : Nat) (a0_0 : Int) (a0_1 : Int) (a0_2 : Int) (a0_3 : Int) (a0_4 : Int) (a0_5 : Int) (a0_6 : Int) (a0_7 : Int) : Option (ByteArray) := (spec_RecOk.f k a0_0 a0_1 a0_2 a0_3 a0_4 a0_5 a0_6 a0_7).bind fun t297 => (if t297 = true then ((spec_l2Names.f).bind fun t298 => (if 0 ≤ a0_0 then (if a0_0 < (t298.length : Int) then (if (rdOf ByteArray.empty t298 a0_0).size + 1 ≤ 9223372036854775807 then ((spec_l6Dec.f k a0_1).bind fun t302 => (if ((rdOf ByteArray.empty t298 a0_0) ++ (⟨#[32]⟩ : ByteArray)).size + t302.size ≤ 9223372036854775807 then (if (((rdOf ByteArray.empty t298 a0_0) ++ (⟨#[32]⟩ : ByteArray)) ++ t302).size + 1 ≤ 9223372036854775807 then ((spec_l6Dec.f k a0_2).bind fun t303 => (if ((((rdOf ByteArray.empty t298 a0_0) ++ (⟨#[32]⟩ : ByteArray)) ++ t302) ++ (⟨#[32]⟩ : ByteArray)).size + t303.size ≤ 9223372036854775807 then (if (((((rdOf ByteArray.empty t298 a0_0) ++ (⟨#[32]⟩ : ByteArray)) ++ t302) ++ (⟨#[32]⟩ : ByteArray)) ++ t303).size + 1 ≤ 9223372036854775807 then ((spec_l6Dec.f k a0_3).bind fun t304 => (if ((((((rdOf ByteArray.empty t298 a0_0) ++ (⟨#[32]⟩ : ByteArray)) ++ t302) ++ (⟨#[32]⟩ : ByteArray)) ++ t303) ++ (⟨#[32]⟩ : ByteArray)).size + t304.size ≤ 9223372036854775807 then (if (((((((rdOf ByteArray.empty t298 a0_0) ++ (⟨#[32]⟩ : ByteArray)) ++ t302) ++ (⟨#[32]⟩ : ByteArray)) ++ t303) ++ (⟨#[32]⟩ : ByteArray)) ++ t304).size + 1 ≤ 9223372036854775807 then ((spec_l6Dec.f k a0_4).bind fun t305 => (if ((((((((rdOf ByteArray.empty t298 a0_0) ++ (⟨#[32]⟩ : ByteArray)) ++ t302) ++ (⟨#[32]⟩ : ByteArray)) ++ t303) ++ (⟨#[32]⟩ : ByteArray)) ++ t304) ++ (⟨#[32]⟩ : ByteArray)).size + t305.size ≤ 9223372036854775807 then (if (((((((((rdOf ByteArray.empty t298 a0_0) ++ (⟨#[32]⟩ : ByteArray)) ++ t302) ++ (⟨#[32]⟩ : ByteArray)) ++ t303) ++ (⟨#[32]⟩ : ByteArray)) ++ t304) ++ (⟨#[32]⟩ : ByteArray)) ++ t305).size + 1 ≤ 9223372036854775807 then ((spec_l6Dec.f k a0_5).bind fun t306 => (if ((((((((((rdOf ByteArray.empty t298 a0_0) ++ (⟨#[32]⟩ : ByteArray)) ++ t302) ++ (⟨#[32]⟩ : ByteArray)) ++ t303) ++ (⟨#[32]⟩ : ByteArray)) ++ t304) ++ (⟨#[32]⟩ : ByteArray)) ++ t305) ++ (⟨#[32]⟩ : ByteArray)).size + t306.size ≤ 9223372036854775807 then (if (((((((((((rdOf ByteArray.empty t298 a0_0) ++ (⟨#[32]⟩ : ByteArray)) ++ t302) ++ (⟨#[32]⟩ : ByteArray)) ++ t303) ++ (⟨#[32]⟩ : ByteArray)) ++ t304) ++ (⟨#[32]⟩ : ByteArray)) ++ t305) ++ (⟨#[32]⟩ : ByteArray)) ++ t306).size + 1 ≤ 9223372036854775807 then ((spec_l6Dec.f k a0_6).bind fun t307 => (if ((((((((((((rdOf ByteArray.empty t298 a0_0) ++ (⟨#[32]⟩ : ByteArray)) ++ t302) ++ (⟨#[32]⟩ : ByteArray)) ++ t303) ++ (⟨#[32]⟩ : ByteArray)) ++ t304) ++ (⟨#[32]⟩ : ByteArray)) ++ t305) ++ (⟨#[32]⟩ : ByteArray)) ++ t306) ++ (⟨#[32]⟩ : ByteArray)).size + t307.size ≤ 9223372036854775807 then (if (((((((((((((rdOf ByteArray.empty t298 a0_0) ++ (⟨#[32]⟩ : ByteArray)) ++ t302) ++ (⟨#[32]⟩ : ByteArray)) ++ t303) ++ (⟨#[32]⟩ : ByteArray)) ++ t304) ++ (⟨#[32]⟩ : ByteArray)) ++ t305) ++ (⟨#[32]⟩ : ByteArray)) ++ t306) ++ (⟨#[32]⟩ : ByteArray)) ++ t307).size + 1 ≤ 9223372036854775807 then ((spec_l6Dec.f k a0_7).bind fun t308 => (if ((((((((((((((rdOf ByteArray.empty t298 a0_0) ++ (⟨#[32]⟩ : ByteArray)) ++ t302) ++ (⟨#[32]⟩ : ByteArray)) ++ t303) ++ (⟨#[32]⟩ : ByteArray)) ++ t304) ++ (⟨#[32]⟩ : ByteArray)) ++ t305) ++ (⟨#[32]⟩ : ByteArray)) ++ t306) ++ (⟨#[32]⟩ : ByteArray)) ++ t307) ++ (⟨#[32]⟩ : ByteArray)).size + t308.size ≤ 9223372036854775807 then (some (((((((((((((((rdOf ByteArray.empty t298 a0_0) ++ (⟨#[32]⟩ : ByteArray)) ++ t302) ++ (⟨#[32]⟩ : ByteArray)) ++ t303) ++ (⟨#[32]⟩ : ByteArray)) ++ t304) ++ (⟨#[32]⟩ : ByteArray)) ++ t305) ++ (⟨#[32]⟩ : ByteArray)) ++ t306) ++ (⟨#[32]⟩ : ByteArray)) ++ t307) ++ (⟨#[32]⟩ : ByteArray)) ++ t308)) else (none))) else (none)) else (none))) else (none)) else (none))) else (none)) else (none))) else (none)) else (none))) else (none)) else (none))) else (none)) else (none))) else (none)) else (none)) else (none))) else (some (⟨#[]⟩ : ByteArray)))
theorem spec_RecText.mono : ∀ a0 a1 a2 a3 a4 a5 a6 a7 k, LeO (spec_RecText.f k a0 a1 a2 a3 a4 a5 a6 a7) (spec_RecText.f (k + 1) a0 a1 a2 a3 a4 a5 a6 a7) := by
  intro a0 a1 a2 a3 a4 a5 a6 a7 k
  unfold spec_RecText.f
  repeat' first
      | (with_reducible exact spec_RecOk.mono _ _ _ _ _ _ _ _ _)
      | (with_reducible exact spec_l6Dec.mono _ _)
      | (with_reducible exact LeO.refl _)
      | (with_reducible exact LeO.none _)
      | (with_reducible refine LeO.ite ?_ ?_)
      | (with_reducible refine LeO.bind ?_ (fun _ => ?_))
      | exact spec_RecOk.mono _ _ _ _ _ _ _ _ _
      | exact spec_l6Dec.mono _ _
      | exact LeO.none _
      | refine LeO.ite ?_ ?_
      | refine LeO.bind ?_ (fun _ => ?_)
def spec_RecText.T3 : Bool × List (List Nat × List Nat) := (true, [([], []), ([], []), ([1], [1]), ([0, 2], [0, 2]), ([3], [3]), ([4], [4]), ([], []), ([6], [6]), ([7, 0], [7]), ([5, 8], [5, 8]), ([9], [9]), ([], []), ([11], [11]), ([12, 8], [12]), ([10, 13], [10, 13]), ([14], [14]), ([], []), ([16], [16]), ([17, 13], [17]), ([15, 18], [15, 18]), ([19], [19]), ([], []), ([21], [21]), ([22, 18], [22]), ([20, 23], [20, 23]), ([24], [24]), ([], []), ([26], [26]), ([27, 23], [27]), ([25, 28], [25, 28]), ([29], [29]), ([], []), ([31], [31]), ([32, 28], [32]), ([30, 33], [30, 33]), ([34], [34]), ([], []), ([36], [36]), ([37, 33], [37]), ([35, 38], [35, 38]), ([39, 38, 0, 1, 2, 3, 4, 5, 6, 7, 8, 9, 10, 11, 12, 13, 14, 15, 16, 17, 18, 19, 20, 21, 22, 23, 24, 25, 26, 27, 28, 29, 30, 31, 32, 33, 34, 35, 36, 37, 38, 39], [39])])
def spec_RecText.B3 : List Nat := [0, 0, 2, 7, 15, 31, 0, 64, 193, 511, 1023, 0, 2048, 6593, 16383, 32767, 0, 65536, 211393, 524287, 1048575, 0, 2097152, 6764993, 16777215, 33554431, 0, 67108864, 216480193, 536870911, 1073741823, 0, 2147483648, 6927366593, 17179869183, 34359738367, 0, 68719476736, 221675731393, 549755813887, 1099511627775]
theorem spec_RecText.tab3 : rtab .any (opsOf Tryd.f20 3) = spec_RecText.T3 := by kernel_rfl
theorem spec_RecText.bits3 : waitsOk spec_RecText.T3.2 spec_RecText.B3 = true := by kernel_rfl
set_option maxHeartbeats 8000000 in
set_option maxRecDepth 100000 in
theorem spec_RecText.calls (k : Nat) (a0_0 : Int) (a0_1 : Int) (a0_2 : Int) (a0_3 : Int) (a0_4 : Int) (a0_5 : Int) (a0_6 : Int) (a0_7 : Int) (r : ByteArray) (w : World) (h : spec_RecText.f k a0_0 a0_1 a0_2 a0_3 a0_4 a0_5 a0_6 a0_7 = some r) :
    Calls Tryd.prog 20 #[.agg #[.int .i64 a0_0, .int .i64 a0_1, .int .i64 a0_2, .int .i64 a0_3, .int .i64 a0_4, .int .i64 a0_5, .int .i64 a0_6, .int .i64 a0_7]] w fun e w' => e = .returned (.string r) ∧ Below w.heap.size w w' := by
  have hu37 := Tryd.underlying37
  have HB := Aside0.mk (Below.refl w.heap.size w)
  have H : ((spec_RecOk.f k a0_0 a0_1 a0_2 a0_3 a0_4 a0_5 a0_6 a0_7).bind fun t297 => (if t297 = true then ((spec_l2Names.f).bind fun t298 => (if 0 ≤ a0_0 then (if a0_0 < (t298.length : Int) then (if (rdOf ByteArray.empty t298 a0_0).size + 1 ≤ 9223372036854775807 then ((spec_l6Dec.f k a0_1).bind fun t302 => (if ((rdOf ByteArray.empty t298 a0_0) ++ (⟨#[32]⟩ : ByteArray)).size + t302.size ≤ 9223372036854775807 then (if (((rdOf ByteArray.empty t298 a0_0) ++ (⟨#[32]⟩ : ByteArray)) ++ t302).size + 1 ≤ 9223372036854775807 then ((spec_l6Dec.f k a0_2).bind fun t303 => (if ((((rdOf ByteArray.empty t298 a0_0) ++ (⟨#[32]⟩ : ByteArray)) ++ t302) ++ (⟨#[32]⟩ : ByteArray)).size + t303.size ≤ 9223372036854775807 then (if (((((rdOf ByteArray.empty t298 a0_0) ++ (⟨#[32]⟩ : ByteArray)) ++ t302) ++ (⟨#[32]⟩ : ByteArray)) ++ t303).size + 1 ≤ 9223372036854775807 then ((spec_l6Dec.f k a0_3).bind fun t304 => (if ((((((rdOf ByteArray.empty t298 a0_0) ++ (⟨#[32]⟩ : ByteArray)) ++ t302) ++ (⟨#[32]⟩ : ByteArray)) ++ t303) ++ (⟨#[32]⟩ : ByteArray)).size + t304.size ≤ 9223372036854775807 then (if (((((((rdOf ByteArray.empty t298 a0_0) ++ (⟨#[32]⟩ : ByteArray)) ++ t302) ++ (⟨#[32]⟩ : ByteArray)) ++ t303) ++ (⟨#[32]⟩ : ByteArray)) ++ t304).size + 1 ≤ 9223372036854775807 then ((spec_l6Dec.f k a0_4).bind fun t305 => (if ((((((((rdOf ByteArray.empty t298 a0_0) ++ (⟨#[32]⟩ : ByteArray)) ++ t302) ++ (⟨#[32]⟩ : ByteArray)) ++ t303) ++ (⟨#[32]⟩ : ByteArray)) ++ t304) ++ (⟨#[32]⟩ : ByteArray)).size + t305.size ≤ 9223372036854775807 then (if (((((((((rdOf ByteArray.empty t298 a0_0) ++ (⟨#[32]⟩ : ByteArray)) ++ t302) ++ (⟨#[32]⟩ : ByteArray)) ++ t303) ++ (⟨#[32]⟩ : ByteArray)) ++ t304) ++ (⟨#[32]⟩ : ByteArray)) ++ t305).size + 1 ≤ 9223372036854775807 then ((spec_l6Dec.f k a0_5).bind fun t306 => (if ((((((((((rdOf ByteArray.empty t298 a0_0) ++ (⟨#[32]⟩ : ByteArray)) ++ t302) ++ (⟨#[32]⟩ : ByteArray)) ++ t303) ++ (⟨#[32]⟩ : ByteArray)) ++ t304) ++ (⟨#[32]⟩ : ByteArray)) ++ t305) ++ (⟨#[32]⟩ : ByteArray)).size + t306.size ≤ 9223372036854775807 then (if (((((((((((rdOf ByteArray.empty t298 a0_0) ++ (⟨#[32]⟩ : ByteArray)) ++ t302) ++ (⟨#[32]⟩ : ByteArray)) ++ t303) ++ (⟨#[32]⟩ : ByteArray)) ++ t304) ++ (⟨#[32]⟩ : ByteArray)) ++ t305) ++ (⟨#[32]⟩ : ByteArray)) ++ t306).size + 1 ≤ 9223372036854775807 then ((spec_l6Dec.f k a0_6).bind fun t307 => (if ((((((((((((rdOf ByteArray.empty t298 a0_0) ++ (⟨#[32]⟩ : ByteArray)) ++ t302) ++ (⟨#[32]⟩ : ByteArray)) ++ t303) ++ (⟨#[32]⟩ : ByteArray)) ++ t304) ++ (⟨#[32]⟩ : ByteArray)) ++ t305) ++ (⟨#[32]⟩ : ByteArray)) ++ t306) ++ (⟨#[32]⟩ : ByteArray)).size + t307.size ≤ 9223372036854775807 then (if (((((((((((((rdOf ByteArray.empty t298 a0_0) ++ (⟨#[32]⟩ : ByteArray)) ++ t302) ++ (⟨#[32]⟩ : ByteArray)) ++ t303) ++ (⟨#[32]⟩ : ByteArray)) ++ t304) ++ (⟨#[32]⟩ : ByteArray)) ++ t305) ++ (⟨#[32]⟩ : ByteArray)) ++ t306) ++ (⟨#[32]⟩ : ByteArray)) ++ t307).size + 1 ≤ 9223372036854775807 then ((spec_l6Dec.f k a0_7).bind fun t308 => (if ((((((((((((((rdOf ByteArray.empty t298 a0_0) ++ (⟨#[32]⟩ : ByteArray)) ++ t302) ++ (⟨#[32]⟩ : ByteArray)) ++ t303) ++ (⟨#[32]⟩ : ByteArray)) ++ t304) ++ (⟨#[32]⟩ : ByteArray)) ++ t305) ++ (⟨#[32]⟩ : ByteArray)) ++ t306) ++ (⟨#[32]⟩ : ByteArray)) ++ t307) ++ (⟨#[32]⟩ : ByteArray)).size + t308.size ≤ 9223372036854775807 then (some (((((((((((((((rdOf ByteArray.empty t298 a0_0) ++ (⟨#[32]⟩ : ByteArray)) ++ t302) ++ (⟨#[32]⟩ : ByteArray)) ++ t303) ++ (⟨#[32]⟩ : ByteArray)) ++ t304) ++ (⟨#[32]⟩ : ByteArray)) ++ t305) ++ (⟨#[32]⟩ : ByteArray)) ++ t306) ++ (⟨#[32]⟩ : ByteArray)) ++ t307) ++ (⟨#[32]⟩ : ByteArray)) ++ t308)) else (none))) else (none)) else (none))) else (none)) else (none))) else (none)) else (none))) else (none)) else (none))) else (none)) else (none))) else (none)) else (none))) else (none)) else (none)) else (none))) else (some (⟨#[]⟩ : ByteArray)))) = some r := h
  clear h
  replace H := Option.bind_eq_some_iff.mp H
  obtain ⟨t297, A20, H⟩ := H
  replace H : (if t297 = true then ((spec_l2Names.f).bind fun t298 => (if 0 ≤ a0_0 then (if a0_0 < (t298.length : Int) then (if (rdOf ByteArray.empty t298 a0_0).size + 1 ≤ 9223372036854775807 then ((spec_l6Dec.f k a0_1).bind fun t302 => (if ((rdOf ByteArray.empty t298 a0_0) ++ (⟨#[32]⟩ : ByteArray)).size + t302.size ≤ 9223372036854775807 then (if (((rdOf ByteArray.empty t298 a0_0) ++ (⟨#[32]⟩ : ByteArray)) ++ t302).size + 1 ≤ 9223372036854775807 then ((spec_l6Dec.f k a0_2).bind fun t303 => (if ((((rdOf ByteArray.empty t298 a0_0) ++ (⟨#[32]⟩ : ByteArray)) ++ t302) ++ (⟨#[32]⟩ : ByteArray)).size + t303.size ≤ 9223372036854775807 then (if (((((rdOf ByteArray.empty t298 a0_0) ++ (⟨#[32]⟩ : ByteArray)) ++ t302) ++ (⟨#[32]⟩ : ByteArray)) ++ t303).size + 1 ≤ 9223372036854775807 then ((spec_l6Dec.f k a0_3).bind fun t304 => (if ((((((rdOf ByteArray.empty t298 a0_0) ++ (⟨#[32]⟩ : ByteArray)) ++ t302) ++ (⟨#[32]⟩ : ByteArray)) ++ t303) ++ (⟨#[32]⟩ : ByteArray)).size + t304.size ≤ 9223372036854775807 then (if (((((((rdOf ByteArray.empty t298 a0_0) ++ (⟨#[32]⟩ : ByteArray)) ++ t302) ++ (⟨#[32]⟩ : ByteArray)) ++ t303) ++ (⟨#[32]⟩ : ByteArray)) ++ t304).size + 1 ≤ 9223372036854775807 then ((spec_l6Dec.f k a0_4).bind fun t305 => (if ((((((((rdOf ByteArray.empty t298 a0_0) ++ (⟨#[32]⟩ : ByteArray)) ++ t302) ++ (⟨#[32]⟩ : ByteArray)) ++ t303) ++ (⟨#[32]⟩ : ByteArray)) ++ t304) ++ (⟨#[32]⟩ : ByteArray)).size + t305.size ≤ 9223372036854775807 then (if (((((((((rdOf ByteArray.empty t298 a0_0) ++ (⟨#[32]⟩ : ByteArray)) ++ t302) ++ (⟨#[32]⟩ : ByteArray)) ++ t303) ++ (⟨#[32]⟩ : ByteArray)) ++ t304) ++ (⟨#[32]⟩ : ByteArray)) ++ t305).size + 1 ≤ 9223372036854775807 then ((spec_l6Dec.f k a0_5).bind fun t306 => (if ((((((((((rdOf ByteArray.empty t298 a0_0) ++ (⟨#[32]⟩ : ByteArray)) ++ t302) ++ (⟨#[32]⟩ : ByteArray)) ++ t303) ++ (⟨#[32]⟩ : ByteArray)) ++ t304) ++ (⟨#[32]⟩ : ByteArray)) ++ t305) ++ (⟨#[32]⟩ : ByteArray)).size + t306.size ≤ 9223372036854775807 then (if (((((((((((rdOf ByteArray.empty t298 a0_0) ++ (⟨#[32]⟩ : ByteArray)) ++ t302) ++ (⟨#[32]⟩ : ByteArray)) ++ t303) ++ (⟨#[32]⟩ : ByteArray)) ++ t304) ++ (⟨#[32]⟩ : ByteArray)) ++ t305) ++ (⟨#[32]⟩ : ByteArray)) ++ t306).size + 1 ≤ 9223372036854775807 then ((spec_l6Dec.f k a0_6).bind fun t307 => (if ((((((((((((rdOf ByteArray.empty t298 a0_0) ++ (⟨#[32]⟩ : ByteArray)) ++ t302) ++ (⟨#[32]⟩ : ByteArray)) ++ t303) ++ (⟨#[32]⟩ : ByteArray)) ++ t304) ++ (⟨#[32]⟩ : ByteArray)) ++ t305) ++ (⟨#[32]⟩ : ByteArray)) ++ t306) ++ (⟨#[32]⟩ : ByteArray)).size + t307.size ≤ 9223372036854775807 then (if (((((((((((((rdOf ByteArray.empty t298 a0_0) ++ (⟨#[32]⟩ : ByteArray)) ++ t302) ++ (⟨#[32]⟩ : ByteArray)) ++ t303) ++ (⟨#[32]⟩ : ByteArray)) ++ t304) ++ (⟨#[32]⟩ : ByteArray)) ++ t305) ++ (⟨#[32]⟩ : ByteArray)) ++ t306) ++ (⟨#[32]⟩ : ByteArray)) ++ t307).size + 1 ≤ 9223372036854775807 then ((spec_l6Dec.f k a0_7).bind fun t308 => (if ((((((((((((((rdOf ByteArray.empty t298 a0_0) ++ (⟨#[32]⟩ : ByteArray)) ++ t302) ++ (⟨#[32]⟩ : ByteArray)) ++ t303) ++ (⟨#[32]⟩ : ByteArray)) ++ t304) ++ (⟨#[32]⟩ : ByteArray)) ++ t305) ++ (⟨#[32]⟩ : ByteArray)) ++ t306) ++ (⟨#[32]⟩ : ByteArray)) ++ t307) ++ (⟨#[32]⟩ : ByteArray)).size + t308.size ≤ 9223372036854775807 then (some (((((((((((((((rdOf ByteArray.empty t298 a0_0) ++ (⟨#[32]⟩ : ByteArray)) ++ t302) ++ (⟨#[32]⟩ : ByteArray)) ++ t303) ++ (⟨#[32]⟩ : ByteArray)) ++ t304) ++ (⟨#[32]⟩ : ByteArray)) ++ t305) ++ (⟨#[32]⟩ : ByteArray)) ++ t306) ++ (⟨#[32]⟩ : ByteArray)) ++ t307) ++ (⟨#[32]⟩ : ByteArray)) ++ t308)) else (none))) else (none)) else (none))) else (none)) else (none))) else (none)) else (none))) else (none)) else (none))) else (none)) else (none))) else (none)) else (none))) else (none)) else (none)) else (none))) else (some (⟨#[]⟩ : ByteArray))) = some r := H
  have A2 := Aside0.mk A20
  clear A20
  by_cases c3 : t297 = true
  · subst c3
    have H1 : ((spec_l2Names.f).bind fun t298 => (if 0 ≤ a0_0 then (if a0_0 < (t298.length : Int) then (if (rdOf ByteArray.empty t298 a0_0).size + 1 ≤ 9223372036854775807 then ((spec_l6Dec.f k a0_1).bind fun t302 => (if ((rdOf ByteArray.empty t298 a0_0) ++ (⟨#[32]⟩ : ByteArray)).size + t302.size ≤ 9223372036854775807 then (if (((rdOf ByteArray.empty t298 a0_0) ++ (⟨#[32]⟩ : ByteArray)) ++ t302).size + 1 ≤ 9223372036854775807 then ((spec_l6Dec.f k a0_2).bind fun t303 => (if ((((rdOf ByteArray.empty t298 a0_0) ++ (⟨#[32]⟩ : ByteArray)) ++ t302) ++ (⟨#[32]⟩ : ByteArray)).size + t303.size ≤ 9223372036854775807 then (if (((((rdOf ByteArray.empty t298 a0_0) ++ (⟨#[32]⟩ : ByteArray)) ++ t302) ++ (⟨#[32]⟩ : ByteArray)) ++ t303).size + 1 ≤ 9223372036854775807 then ((spec_l6Dec.f k a0_3).bind fun t304 => (if ((((((rdOf ByteArray.empty t298 a0_0) ++ (⟨#[32]⟩ : ByteArray)) ++ t302) ++ (⟨#[32]⟩ : ByteArray)) ++ t303) ++ (⟨#[32]⟩ : ByteArray)).size + t304.size ≤ 9223372036854775807 then (if (((((((rdOf ByteArray.empty t298 a0_0) ++ (⟨#[32]⟩ : ByteArray)) ++ t302) ++ (⟨#[32]⟩ : ByteArray)) ++ t303) ++ (⟨#[32]⟩ : ByteArray)) ++ t304).size + 1 ≤ 9223372036854775807 then ((spec_l6Dec.f k a0_4).bind fun t305 => (if ((((((((rdOf ByteArray.empty t298 a0_0) ++ (⟨#[32]⟩ : ByteArray)) ++ t302) ++ (⟨#[32]⟩ : ByteArray)) ++ t303) ++ (⟨#[32]⟩ : ByteArray)) ++ t304) ++ (⟨#[32]⟩ : ByteArray)).size + t305.size ≤ 9223372036854775807 then (if (((((((((rdOf ByteArray.empty t298 a0_0) ++ (⟨#[32]⟩ : ByteArray)) ++ t302) ++ (⟨#[32]⟩ : ByteArray)) ++ t303) ++ (⟨#[32]⟩ : ByteArray)) ++ t304) ++ (⟨#[32]⟩ : ByteArray)) ++ t305).size + 1 ≤ 9223372036854775807 then ((spec_l6Dec.f k a0_5).bind fun t306 => (if ((((((((((rdOf ByteArray.empty t298 a0_0) ++ (⟨#[32]⟩ : ByteArray)) ++ t302) ++ (⟨#[32]⟩ : ByteArray)) ++ t303) ++ (⟨#[32]⟩ : ByteArray)) ++ t304) ++ (⟨#[32]⟩ : ByteArray)) ++ t305) ++ (⟨#[32]⟩ : ByteArray)).size + t306.size ≤ 9223372036854775807 then (if (((((((((((rdOf ByteArray.empty t298 a0_0) ++ (⟨#[32]⟩ : ByteArray)) ++ t302) ++ (⟨#[32]⟩ : ByteArray)) ++ t303) ++ (⟨#[32]⟩ : ByteArray)) ++ t304) ++ (⟨#[32]⟩ : ByteArray)) ++ t305) ++ (⟨#[32]⟩ : ByteArray)) ++ t306).size + 1 ≤ 9223372036854775807 then ((spec_l6Dec.f k a0_6).bind fun t307 => (if ((((((((((((rdOf ByteArray.empty t298 a0_0) ++ (⟨#[32]⟩ : ByteArray)) ++ t302) ++ (⟨#[32]⟩ : ByteArray)) ++ t303) ++ (⟨#[32]⟩ : ByteArray)) ++ t304) ++ (⟨#[32]⟩ : ByteArray)) ++ t305) ++ (⟨#[32]⟩ : ByteArray)) ++ t306) ++ (⟨#[32]⟩ : ByteArray)).size + t307.size ≤ 9223372036854775807 then (if (((((((((((((rdOf ByteArray.empty t298 a0_0) ++ (⟨#[32]⟩ : ByteArray)) ++ t302) ++ (⟨#[32]⟩ : ByteArray)) ++ t303) ++ (⟨#[32]⟩ : ByteArray)) ++ t304) ++ (⟨#[32]⟩ : ByteArray)) ++ t305) ++ (⟨#[32]⟩ : ByteArray)) ++ t306) ++ (⟨#[32]⟩ : ByteArray)) ++ t307).size + 1 ≤ 9223372036854775807 then ((spec_l6Dec.f k a0_7).bind fun t308 => (if ((((((((((((((rdOf ByteArray.empty t298 a0_0) ++ (⟨#[32]⟩ : ByteArray)) ++ t302) ++ (⟨#[32]⟩ : ByteArray)) ++ t303) ++ (⟨#[32]⟩ : ByteArray)) ++ t304) ++ (⟨#[32]⟩ : ByteArray)) ++ t305) ++ (⟨#[32]⟩ : ByteArray)) ++ t306) ++ (⟨#[32]⟩ : ByteArray)) ++ t307) ++ (⟨#[32]⟩ : ByteArray)).size + t308.size ≤ 9223372036854775807 then (some (((((((((((((((rdOf ByteArray.empty t298 a0_0) ++ (⟨#[32]⟩ : ByteArray)) ++ t302) ++ (⟨#[32]⟩ : ByteArray)) ++ t303) ++ (⟨#[32]⟩ : ByteArray)) ++ t304) ++ (⟨#[32]⟩ : ByteArray)) ++ t305) ++ (⟨#[32]⟩ : ByteArray)) ++ t306) ++ (⟨#[32]⟩ : ByteArray)) ++ t307) ++ (⟨#[32]⟩ : ByteArray)) ++ t308)) else (none))) else (none)) else (none))) else (none)) else (none))) else (none)) else (none))) else (none)) else (none))) else (none)) else (none))) else (none)) else (none))) else (none)) else (none)) else (none))) = some r := by rw [if_pos rfl] at H; exact H
    clear H
    have H := H1
    clear H1
    replace H := Option.bind_eq_some_iff.mp H
    obtain ⟨t298, A40, H⟩ := H
    replace H : (if 0 ≤ a0_0 then (if a0_0 < (t298.length : Int) then (if (rdOf ByteArray.empty t298 a0_0).size + 1 ≤ 9223372036854775807 then ((spec_l6Dec.f k a0_1).bind fun t302 => (if ((rdOf ByteArray.empty t298 a0_0) ++ (⟨#[32]⟩ : ByteArray)).size + t302.size ≤ 9223372036854775807 then (if (((rdOf ByteArray.empty t298 a0_0) ++ (⟨#[32]⟩ : ByteArray)) ++ t302).size + 1 ≤ 9223372036854775807 then ((spec_l6Dec.f k a0_2).bind fun t303 => (if ((((rdOf ByteArray.empty t298 a0_0) ++ (⟨#[32]⟩ : ByteArray)) ++ t302) ++ (⟨#[32]⟩ : ByteArray)).size + t303.size ≤ 9223372036854775807 then (if (((((rdOf ByteArray.empty t298 a0_0) ++ (⟨#[32]⟩ : ByteArray)) ++ t302) ++ (⟨#[32]⟩ : ByteArray)) ++ t303).size + 1 ≤ 9223372036854775807 then ((spec_l6Dec.f k a0_3).bind fun t304 => (if ((((((rdOf ByteArray.empty t298 a0_0) ++ (⟨#[32]⟩ : ByteArray)) ++ t302) ++ (⟨#[32]⟩ : ByteArray)) ++ t303) ++ (⟨#[32]⟩ : ByteArray)).size + t304.size ≤ 9223372036854775807 then (if (((((((rdOf ByteArray.empty t298 a0_0) ++ (⟨#[32]⟩ : ByteArray)) ++ t302) ++ (⟨#[32]⟩ : ByteArray)) ++ t303) ++ (⟨#[32]⟩ : ByteArray)) ++ t304).size + 1 ≤ 9223372036854775807 then ((spec_l6Dec.f k a0_4).bind fun t305 => (if ((((((((rdOf ByteArray.empty t298 a0_0) ++ (⟨#[32]⟩ : ByteArray)) ++ t302) ++ (⟨#[32]⟩ : ByteArray)) ++ t303) ++ (⟨#[32]⟩ : ByteArray)) ++ t304) ++ (⟨#[32]⟩ : ByteArray)).size + t305.size ≤ 9223372036854775807 then (if (((((((((rdOf ByteArray.empty t298 a0_0) ++ (⟨#[32]⟩ : ByteArray)) ++ t302) ++ (⟨#[32]⟩ : ByteArray)) ++ t303) ++ (⟨#[32]⟩ : ByteArray)) ++ t304) ++ (⟨#[32]⟩ : ByteArray)) ++ t305).size + 1 ≤ 9223372036854775807 then ((spec_l6Dec.f k a0_5).bind fun t306 => (if ((((((((((rdOf ByteArray.empty t298 a0_0) ++ (⟨#[32]⟩ : ByteArray)) ++ t302) ++ (⟨#[32]⟩ : ByteArray)) ++ t303) ++ (⟨#[32]⟩ : ByteArray)) ++ t304) ++ (⟨#[32]⟩ : ByteArray)) ++ t305) ++ (⟨#[32]⟩ : ByteArray)).size + t306.size ≤ 9223372036854775807 then (if (((((((((((rdOf ByteArray.empty t298 a0_0) ++ (⟨#[32]⟩ : ByteArray)) ++ t302) ++ (⟨#[32]⟩ : ByteArray)) ++ t303) ++ (⟨#[32]⟩ : ByteArray)) ++ t304) ++ (⟨#[32]⟩ : ByteArray)) ++ t305) ++ (⟨#[32]⟩ : ByteArray)) ++ t306).size + 1 ≤ 9223372036854775807 then ((spec_l6Dec.f k a0_6).bind fun t307 => (if ((((((((((((rdOf ByteArray.empty t298 a0_0) ++ (⟨#[32]⟩ : ByteArray)) ++ t302) ++ (⟨#[32]⟩ : ByteArray)) ++ t303) ++ (⟨#[32]⟩ : ByteArray)) ++ t304) ++ (⟨#[32]⟩ : ByteArray)) ++ t305) ++ (⟨#[32]⟩ : ByteArray)) ++ t306) ++ (⟨#[32]⟩ : ByteArray)).size + t307.size ≤ 9223372036854775807 then (if (((((((((((((rdOf ByteArray.empty t298 a0_0) ++ (⟨#[32]⟩ : ByteArray)) ++ t302) ++ (⟨#[32]⟩ : ByteArray)) ++ t303) ++ (⟨#[32]⟩ : ByteArray)) ++ t304) ++ (⟨#[32]⟩ : ByteArray)) ++ t305) ++ (⟨#[32]⟩ : ByteArray)) ++ t306) ++ (⟨#[32]⟩ : ByteArray)) ++ t307).size + 1 ≤ 9223372036854775807 then ((spec_l6Dec.f k a0_7).bind fun t308 => (if ((((((((((((((rdOf ByteArray.empty t298 a0_0) ++ (⟨#[32]⟩ : ByteArray)) ++ t302) ++ (⟨#[32]⟩ : ByteArray)) ++ t303) ++ (⟨#[32]⟩ : ByteArray)) ++ t304) ++ (⟨#[32]⟩ : ByteArray)) ++ t305) ++ (⟨#[32]⟩ : ByteArray)) ++ t306) ++ (⟨#[32]⟩ : ByteArray)) ++ t307) ++ (⟨#[32]⟩ : ByteArray)).size + t308.size ≤ 9223372036854775807 then (some (((((((((((((((rdOf ByteArray.empty t298 a0_0) ++ (⟨#[32]⟩ : ByteArray)) ++ t302) ++ (⟨#[32]⟩ : ByteArray)) ++ t303) ++ (⟨#[32]⟩ : ByteArray)) ++ t304) ++ (⟨#[32]⟩ : ByteArray)) ++ t305) ++ (⟨#[32]⟩ : ByteArray)) ++ t306) ++ (⟨#[32]⟩ : ByteArray)) ++ t307) ++ (⟨#[32]⟩ : ByteArray)) ++ t308)) else (none))) else (none)) else (none))) else (none)) else (none))) else (none)) else (none))) else (none)) else (none))) else (none)) else (none))) else (none)) else (none))) else (none)) else (none)) else (none)) = some r := H
    have A4 := Aside0.mk A40
    clear A40
    by_cases c5 : 0 ≤ a0_0
    · rw [if_pos c5] at H
      have c5b0 : decide (0 ≤ a0_0) = true := decide_eq_true c5
      clear c5
      by_cases c6 : a0_0 < (t298.length : Int)
      · rw [if_pos c6] at H
        have c6b0 : decide (a0_0 < (t298.length : Int)) = true := decide_eq_true c6
        clear c6
        by_cases c7 : (rdOf ByteArray.empty t298 a0_0).size + 1 ≤ 9223372036854775807
        · rw [if_pos c7] at H
          have c7b0 := eq_true c7
          have c7b1 : decide ((rdOf ByteArray.empty t298 a0_0).size + 1 ≤ 9223372036854775807) = true := decide_eq_true c7
          try have c7b2 : (9223372036854775807 < (rdOf ByteArray.empty t298 a0_0).size + 1) = False := eq_false (Nat.not_lt.2 c7)
          replace H := Option.bind_eq_some_iff.mp H
          obtain ⟨t302, A80, H⟩ := H
          replace H : (if ((rdOf ByteArray.empty t298 a0_0) ++ (⟨#[32]⟩ : ByteArray)).size + t302.size ≤ 9223372036854775807 then (if (((rdOf ByteArray.empty t298 a0_0) ++ (⟨#[32]⟩ : ByteArray)) ++ t302).size + 1 ≤ 9223372036854775807 then ((spec_l6Dec.f k a0_2).bind fun t303 => (if ((((rdOf ByteArray.empty t298 a0_0) ++ (⟨#[32]⟩ : ByteArray)) ++ t302) ++ (⟨#[32]⟩ : ByteArray)).size + t303.size ≤ 9223372036854775807 then (if (((((rdOf ByteArray.empty t298 a0_0) ++ (⟨#[32]⟩ : ByteArray)) ++ t302) ++ (⟨#[32]⟩ : ByteArray)) ++ t303).size + 1 ≤ 9223372036854775807 then ((spec_l6Dec.f k a0_3).bind fun t304 => (if ((((((rdOf ByteArray.empty t298 a0_0) ++ (⟨#[32]⟩ : ByteArray)) ++ t302) ++ (⟨#[32]⟩ : ByteArray)) ++ t303) ++ (⟨#[32]⟩ : ByteArray)).size + t304.size ≤ 9223372036854775807 then (if (((((((rdOf ByteArray.empty t298 a0_0) ++ (⟨#[32]⟩ : ByteArray)) ++ t302) ++ (⟨#[32]⟩ : ByteArray)) ++ t303) ++ (⟨#[32]⟩ : ByteArray)) ++ t304).size + 1 ≤ 9223372036854775807 then ((spec_l6Dec.f k a0_4).bind fun t305 => (if ((((((((rdOf ByteArray.empty t298 a0_0) ++ (⟨#[32]⟩ : ByteArray)) ++ t302) ++ (⟨#[32]⟩ : ByteArray)) ++ t303) ++ (⟨#[32]⟩ : ByteArray)) ++ t304) ++ (⟨#[32]⟩ : ByteArray)).size + t305.size ≤ 9223372036854775807 then (if (((((((((rdOf ByteArray.empty t298 a0_0) ++ (⟨#[32]⟩ : ByteArray)) ++ t302) ++ (⟨#[32]⟩ : ByteArray)) ++ t303) ++ (⟨#[32]⟩ : ByteArray)) ++ t304) ++ (⟨#[32]⟩ : ByteArray)) ++ t305).size + 1 ≤ 9223372036854775807 then ((spec_l6Dec.f k a0_5).bind fun t306 => (if ((((((((((rdOf ByteArray.empty t298 a0_0) ++ (⟨#[32]⟩ : ByteArray)) ++ t302) ++ (⟨#[32]⟩ : ByteArray)) ++ t303) ++ (⟨#[32]⟩ : ByteArray)) ++ t304) ++ (⟨#[32]⟩ : ByteArray)) ++ t305) ++ (⟨#[32]⟩ : ByteArray)).size + t306.size ≤ 9223372036854775807 then (if (((((((((((rdOf ByteArray.empty t298 a0_0) ++ (⟨#[32]⟩ : ByteArray)) ++ t302) ++ (⟨#[32]⟩ : ByteArray)) ++ t303) ++ (⟨#[32]⟩ : ByteArray)) ++ t304) ++ (⟨#[32]⟩ : ByteArray)) ++ t305) ++ (⟨#[32]⟩ : ByteArray)) ++ t306).size + 1 ≤ 9223372036854775807 then ((spec_l6Dec.f k a0_6).bind fun t307 => (if ((((((((((((rdOf ByteArray.empty t298 a0_0) ++ (⟨#[32]⟩ : ByteArray)) ++ t302) ++ (⟨#[32]⟩ : ByteArray)) ++ t303) ++ (⟨#[32]⟩ : ByteArray)) ++ t304) ++ (⟨#[32]⟩ : ByteArray)) ++ t305) ++ (⟨#[32]⟩ : ByteArray)) ++ t306) ++ (⟨#[32]⟩ : ByteArray)).size + t307.size ≤ 9223372036854775807 then (if (((((((((((((rdOf ByteArray.empty t298 a0_0) ++ (⟨#[32]⟩ : ByteArray)) ++ t302) ++ (⟨#[32]⟩ : ByteArray)) ++ t303) ++ (⟨#[32]⟩ : ByteArray)) ++ t304) ++ (⟨#[32]⟩ : ByteArray)) ++ t305) ++ (⟨#[32]⟩ : ByteArray)) ++ t306) ++ (⟨#[32]⟩ : ByteArray)) ++ t307).size + 1 ≤ 9223372036854775807 then ((spec_l6Dec.f k a0_7).bind fun t308 => (if ((((((((((((((rdOf ByteArray.empty t298 a0_0) ++ (⟨#[32]⟩ : ByteArray)) ++ t302) ++ (⟨#[32]⟩ : ByteArray)) ++ t303) ++ (⟨#[32]⟩ : ByteArray)) ++ t304) ++ (⟨#[32]⟩ : ByteArray)) ++ t305) ++ (⟨#[32]⟩ : ByteArray)) ++ t306) ++ (⟨#[32]⟩ : ByteArray)) ++ t307) ++ (⟨#[32]⟩ : ByteArray)).size + t308.size ≤ 9223372036854775807 then (some (((((((((((((((rdOf ByteArray.empty t298 a0_0) ++ (⟨#[32]⟩ : ByteArray)) ++ t302) ++ (⟨#[32]⟩ : ByteArray)) ++ t303) ++ (⟨#[32]⟩ : ByteArray)) ++ t304) ++ (⟨#[32]⟩ : ByteArray)) ++ t305) ++ (⟨#[32]⟩ : ByteArray)) ++ t306) ++ (⟨#[32]⟩ : ByteArray)) ++ t307) ++ (⟨#[32]⟩ : ByteArray)) ++ t308)) else (none))) else (none)) else (none))) else (none)) else (none))) else (none)) else (none))) else (none)) else (none))) else (none)) else (none))) else (none)) else (none)) = some r := H
          have A8 := Aside0.mk A80
          clear A80
          by_cases c9 : ((rdOf ByteArray.empty t298 a0_0) ++ (⟨#[32]⟩ : ByteArray)).size + t302.size ≤ 9223372036854775807
          · rw [if_pos c9] at H
            have c9b0 := eq_true c9
            have c9b1 : decide (((rdOf ByteArray.empty t298 a0_0) ++ (⟨#[32]⟩ : ByteArray)).size + t302.size ≤ 9223372036854775807) = true := decide_eq_true c9
            try have c9b2 : (9223372036854775807 < ((rdOf ByteArray.empty t298 a0_0) ++ (⟨#[32]⟩ : ByteArray)).size + t302.size) = False := eq_false (Nat.not_lt.2 c9)
            have c9z : (rdOf ByteArray.empty t298 a0_0).size + 1 + t302.size ≤ 9223372036854775807 := by have h_ := c9; simp only [ByteArray.size_append] at h_; exact h_
            have c9y := eq_false (Nat.not_lt.2 c9z)
            have c9x := decide_eq_true c9z
            clear c9z
            by_cases c10 : (((rdOf ByteArray.empty t298 a0_0) ++ (⟨#[32]⟩ : ByteArray)) ++ t302).size + 1 ≤ 9223372036854775807
            · rw [if_pos c10] at H
              have c10b0 := eq_true c10
              have c10b1 : decide ((((rdOf ByteArray.empty t298 a0_0) ++ (⟨#[32]⟩ : ByteArray)) ++ t302).size + 1 ≤ 9223372036854775807) = true := decide_eq_true c10
              try have c10b2 : (9223372036854775807 < (((rdOf ByteArray.empty t298 a0_0) ++ (⟨#[32]⟩ : ByteArray)) ++ t302).size + 1) = False := eq_false (Nat.not_lt.2 c10)
              have c10z : (rdOf ByteArray.empty t298 a0_0).size + 1 + t302.size + 1 ≤ 9223372036854775807 := by have h_ := c10; simp only [ByteArray.size_append] at h_; exact h_
              have c10y := eq_false (Nat.not_lt.2 c10z)
              have c10x := decide_eq_true c10z
              clear c10z
              replace H := Option.bind_eq_some_iff.mp H
              obtain ⟨t303, A110, H⟩ := H
              replace H : (if ((((rdOf ByteArray.empty t298 a0_0) ++ (⟨#[32]⟩ : ByteArray)) ++ t302) ++ (⟨#[32]⟩ : ByteArray)).size + t303.size ≤ 9223372036854775807 then (if (((((rdOf ByteArray.empty t298 a0_0) ++ (⟨#[32]⟩ : ByteArray)) ++ t302) ++ (⟨#[32]⟩ : ByteArray)) ++ t303).size + 1 ≤ 9223372036854775807 then ((spec_l6Dec.f k a0_3).bind fun t304 => (if ((((((rdOf ByteArray.empty t298 a0_0) ++ (⟨#[32]⟩ : ByteArray)) ++ t302) ++ (⟨#[32]⟩ : ByteArray)) ++ t303) ++ (⟨#[32]⟩ : ByteArray)).size + t304.size ≤ 9223372036854775807 then (if (((((((rdOf ByteArray.empty t298 a0_0) ++ (⟨#[32]⟩ : ByteArray)) ++ t302) ++ (⟨#[32]⟩ : ByteArray)) ++ t303) ++ (⟨#[32]⟩ : ByteArray)) ++ t304).size + 1 ≤ 9223372036854775807 then ((spec_l6Dec.f k a0_4).bind fun t305 => (if ((((((((rdOf ByteArray.empty t298 a0_0) ++ (⟨#[32]⟩ : ByteArray)) ++ t302) ++ (⟨#[32]⟩ : ByteArray)) ++ t303) ++ (⟨#[32]⟩ : ByteArray)) ++ t304) ++ (⟨#[32]⟩ : ByteArray)).size + t305.size ≤ 9223372036854775807 then (if (((((((((rdOf ByteArray.empty t298 a0_0) ++ (⟨#[32]⟩ : ByteArray)) ++ t302) ++ (⟨#[32]⟩ : ByteArray)) ++ t303) ++ (⟨#[32]⟩ : ByteArray)) ++ t304) ++ (⟨#[32]⟩ : ByteArray)) ++ t305).size + 1 ≤ 9223372036854775807 then ((spec_l6Dec.f k a0_5).bind fun t306 => (if ((((((((((rdOf ByteArray.empty t298 a0_0) ++ (⟨#[32]⟩ : ByteArray)) ++ t302) ++ (⟨#[32]⟩ : ByteArray)) ++ t303) ++ (⟨#[32]⟩ : ByteArray)) ++ t304) ++ (⟨#[32]⟩ : ByteArray)) ++ t305) ++ (⟨#[32]⟩ : ByteArray)).size + t306.size ≤ 9223372036854775807 then (if (((((((((((rdOf ByteArray.empty t298 a0_0) ++ (⟨#[32]⟩ : ByteArray)) ++ t302) ++ (⟨#[32]⟩ : ByteArray)) ++ t303) ++ (⟨#[32]⟩ : ByteArray)) ++ t304) ++ (⟨#[32]⟩ : ByteArray)) ++ t305) ++ (⟨#[32]⟩ : ByteArray)) ++ t306).size + 1 ≤ 9223372036854775807 then ((spec_l6Dec.f k a0_6).bind fun t307 => (if ((((((((((((rdOf ByteArray.empty t298 a0_0) ++ (⟨#[32]⟩ : ByteArray)) ++ t302) ++ (⟨#[32]⟩ : ByteArray)) ++ t303) ++ (⟨#[32]⟩ : ByteArray)) ++ t304) ++ (⟨#[32]⟩ : ByteArray)) ++ t305) ++ (⟨#[32]⟩ : ByteArray)) ++ t306) ++ (⟨#[32]⟩ : ByteArray)).size + t307.size ≤ 9223372036854775807 then (if (((((((((((((rdOf ByteArray.empty t298 a0_0) ++ (⟨#[32]⟩ : ByteArray)) ++ t302) ++ (⟨#[32]⟩ : ByteArray)) ++ t303) ++ (⟨#[32]⟩ : ByteArray)) ++ t304) ++ (⟨#[32]⟩ : ByteArray)) ++ t305) ++ (⟨#[32]⟩ : ByteArray)) ++ t306) ++ (⟨#[32]⟩ : ByteArray)) ++ t307).size + 1 ≤ 9223372036854775807 then ((spec_l6Dec.f k a0_7).bind fun t308 => (if ((((((((((((((rdOf ByteArray.empty t298 a0_0) ++ (⟨#[32]⟩ : ByteArray)) ++ t302) ++ (⟨#[32]⟩ : ByteArray)) ++ t303) ++ (⟨#[32]⟩ : ByteArray)) ++ t304) ++ (⟨#[32]⟩ : ByteArray)) ++ t305) ++ (⟨#[32]⟩ : ByteArray)) ++ t306) ++ (⟨#[32]⟩ : ByteArray)) ++ t307) ++ (⟨#[32]⟩ : ByteArray)).size + t308.size ≤ 9223372036854775807 then (some (((((((((((((((rdOf ByteArray.empty t298 a0_0) ++ (⟨#[32]⟩ : ByteArray)) ++ t302) ++ (⟨#[32]⟩ : ByteArray)) ++ t303) ++ (⟨#[32]⟩ : ByteArray)) ++ t304) ++ (⟨#[32]⟩ : ByteArray)) ++ t305) ++ (⟨#[32]⟩ : ByteArray)) ++ t306) ++ (⟨#[32]⟩ : ByteArray)) ++ t307) ++ (⟨#[32]⟩ : ByteArray)) ++ t308)) else (none))) else (none)) else (none))) else (none)) else (none))) else (none)) else (none))) else (none)) else (none))) else (none)) else (none)) = some r := H
              have A11 := Aside0.mk A110
              clear A110
              by_cases c12 : ((((rdOf ByteArray.empty t298 a0_0) ++ (⟨#[32]⟩ : ByteArray)) ++ t302) ++ (⟨#[32]⟩ : ByteArray)).size + t303.size ≤ 9223372036854775807
              · rw [if_pos c12] at H
                have c12b0 := eq_true c12
                have c12b1 : decide (((((rdOf ByteArray.empty t298 a0_0) ++ (⟨#[32]⟩ : ByteArray)) ++ t302) ++ (⟨#[32]⟩ : ByteArray)).size + t303.size ≤ 9223372036854775807) = true := decide_eq_true c12
                try have c12b2 : (9223372036854775807 < ((((rdOf ByteArray.empty t298 a0_0) ++ (⟨#[32]⟩ : ByteArray)) ++ t302) ++ (⟨#[32]⟩ : ByteArray)).size + t303.size) = False := eq_false (Nat.not_lt.2 c12)
                have c12z : (rdOf ByteArray.empty t298 a0_0).size + 1 + t302.size + 1 + t303.size ≤ 9223372036854775807 := by have h_ := c12; simp only [ByteArray.size_append] at h_; exact h_
                have c12y := eq_false (Nat.not_lt.2 c12z)
                have c12x := decide_eq_true c12z
                clear c12z
                by_cases c13 : (((((rdOf ByteArray.empty t298 a0_0) ++ (⟨#[32]⟩ : ByteArray)) ++ t302) ++ (⟨#[32]⟩ : ByteArray)) ++ t303).size + 1 ≤ 9223372036854775807
                · rw [if_pos c13] at H
                  have c13b0 := eq_true c13
                  have c13b1 : decide ((((((rdOf ByteArray.empty t298 a0_0) ++ (⟨#[32]⟩ : ByteArray)) ++ t302) ++ (⟨#[32]⟩ : ByteArray)) ++ t303).size + 1 ≤ 9223372036854775807) = true := decide_eq_true c13
                  try have c13b2 : (9223372036854775807 < (((((rdOf ByteArray.empty t298 a0_0) ++ (⟨#[32]⟩ : ByteArray)) ++ t302) ++ (⟨#[32]⟩ : ByteArray)) ++ t303).size + 1) = False := eq_false (Nat.not_lt.2 c13)
                  have c13z : (rdOf ByteArray.empty t298 a0_0).size + 1 + t302.size + 1 + t303.size + 1 ≤ 9223372036854775807 := by have h_ := c13; simp only [ByteArray.size_append] at h_; exact h_
                  have c13y := eq_false (Nat.not_lt.2 c13z)
                  have c13x := decide_eq_true c13z
                  clear c13z
                  replace H := Option.bind_eq_some_iff.mp H
                  obtain ⟨t304, A140, H⟩ := H
                  replace H : (if ((((((rdOf ByteArray.empty t298 a0_0) ++ (⟨#[32]⟩ : ByteArray)) ++ t302) ++ (⟨#[32]⟩ : ByteArray)) ++ t303) ++ (⟨#[32]⟩ : ByteArray)).size + t304.size ≤ 9223372036854775807 then (if (((((((rdOf ByteArray.empty t298 a0_0) ++ (⟨#[32]⟩ : ByteArray)) ++ t302) ++ (⟨#[32]⟩ : ByteArray)) ++ t303) ++ (⟨#[32]⟩ : ByteArray)) ++ t304).size + 1 ≤ 9223372036854775807 then ((spec_l6Dec.f k a0_4).bind fun t305 => (if ((((((((rdOf ByteArray.empty t298 a0_0) ++ (⟨#[32]⟩ : ByteArray)) ++ t302) ++ (⟨#[32]⟩ : ByteArray)) ++ t303) ++ (⟨#[32]⟩ : ByteArray)) ++ t304) ++ (⟨#[32]⟩ : ByteArray)).size + t305.size ≤ 9223372036854775807 then (if (((((((((rdOf ByteArray.empty t298 a0_0) ++ (⟨#[32]⟩ : ByteArray)) ++ t302) ++ (⟨#[32]⟩ : ByteArray)) ++ t303) ++ (⟨#[32]⟩ : ByteArray)) ++ t304) ++ (⟨#[32]⟩ : ByteArray)) ++ t305).size + 1 ≤ 9223372036854775807 then ((spec_l6Dec.f k a0_5).bind fun t306 => (if ((((((((((rdOf ByteArray.empty t298 a0_0) ++ (⟨#[32]⟩ : ByteArray)) ++ t302) ++ (⟨#[32]⟩ : ByteArray)) ++ t303) ++ (⟨#[32]⟩ : ByteArray)) ++ t304) ++ (⟨#[32]⟩ : ByteArray)) ++ t305) ++ (⟨#[32]⟩ : ByteArray)).size + t306.size ≤ 9223372036854775807 then (if (((((((((((rdOf ByteArray.empty t298 a0_0) ++ (⟨#[32]⟩ : ByteArray)) ++ t302) ++ (⟨#[32]⟩ : ByteArray)) ++ t303) ++ (⟨#[32]⟩ : ByteArray)) ++ t304) ++ (⟨#[32]⟩ : ByteArray)) ++ t305) ++ (⟨#[32]⟩ : ByteArray)) ++ t306).size + 1 ≤ 9223372036854775807 then ((spec_l6Dec.f k a0_6).bind fun t307 => (if ((((((((((((rdOf ByteArray.empty t298 a0_0) ++ (⟨#[32]⟩ : ByteArray)) ++ t302) ++ (⟨#[32]⟩ : ByteArray)) ++ t303) ++ (⟨#[32]⟩ : ByteArray)) ++ t304) ++ (⟨#[32]⟩ : ByteArray)) ++ t305) ++ (⟨#[32]⟩ : ByteArray)) ++ t306) ++ (⟨#[32]⟩ : ByteArray)).size + t307.size ≤ 9223372036854775807 then (if (((((((((((((rdOf ByteArray.empty t298 a0_0) ++ (⟨#[32]⟩ : ByteArray)) ++ t302) ++ (⟨#[32]⟩ : ByteArray)) ++ t303) ++ (⟨#[32]⟩ : ByteArray)) ++ t304) ++ (⟨#[32]⟩ : ByteArray)) ++ t305) ++ (⟨#[32]⟩ : ByteArray)) ++ t306) ++ (⟨#[32]⟩ : ByteArray)) ++ t307).size + 1 ≤ 9223372036854775807 then ((spec_l6Dec.f k a0_7).bind fun t308 => (if ((((((((((((((rdOf ByteArray.empty t298 a0_0) ++ (⟨#[32]⟩ : ByteArray)) ++ t302) ++ (⟨#[32]⟩ : ByteArray)) ++ t303) ++ (⟨#[32]⟩ : ByteArray)) ++ t304) ++ (⟨#[32]⟩ : ByteArray)) ++ t305) ++ (⟨#[32]⟩ : ByteArray)) ++ t306) ++ (⟨#[32]⟩ : ByteArray)) ++ t307) ++ (⟨#[32]⟩ : ByteArray)).size + t308.size ≤ 9223372036854775807 then (some (((((((((((((((rdOf ByteArray.empty t298 a0_0) ++ (⟨#[32]⟩ : ByteArray)) ++ t302) ++ (⟨#[32]⟩ : ByteArray)) ++ t303) ++ (⟨#[32]⟩ : ByteArray)) ++ t304) ++ (⟨#[32]⟩ : ByteArray)) ++ t305) ++ (⟨#[32]⟩ : ByteArray)) ++ t306) ++ (⟨#[32]⟩ : ByteArray)) ++ t307) ++ (⟨#[32]⟩ : ByteArray)) ++ t308)) else (none))) else (none)) else (none))) else (none)) else (none))) else (none)) else (none))) else (none)) else (none)) = some r := H
                  have A14 := Aside0.mk A140
                  clear A140
                  by_cases c15 : ((((((rdOf ByteArray.empty t298 a0_0) ++ (⟨#[32]⟩ : ByteArray)) ++ t302) ++ (⟨#[32]⟩ : ByteArray)) ++ t303) ++ (⟨#[32]⟩ : ByteArray)).size + t304.size ≤ 9223372036854775807
                  · rw [if_pos c15] at H
                    have c15b0 := eq_true c15
                    have c15b1 : decide (((((((rdOf ByteArray.empty t298 a0_0) ++ (⟨#[32]⟩ : ByteArray)) ++ t302) ++ (⟨#[32]⟩ : ByteArray)) ++ t303) ++ (⟨#[32]⟩ : ByteArray)).size + t304.size ≤ 9223372036854775807) = true := decide_eq_true c15
                    try have c15b2 : (9223372036854775807 < ((((((rdOf ByteArray.empty t298 a0_0) ++ (⟨#[32]⟩ : ByteArray)) ++ t302) ++ (⟨#[32]⟩ : ByteArray)) ++ t303) ++ (⟨#[32]⟩ : ByteArray)).size + t304.size) = False := eq_false (Nat.not_lt.2 c15)
                    have c15z : (rdOf ByteArray.empty t298 a0_0).size + 1 + t302.size + 1 + t303.size + 1 + t304.size ≤ 9223372036854775807 := by have h_ := c15; simp only [ByteArray.size_append] at h_; exact h_
                    have c15y := eq_false (Nat.not_lt.2 c15z)
                    have c15x := decide_eq_true c15z
                    clear c15z
                    by_cases c16 : (((((((rdOf ByteArray.empty t298 a0_0) ++ (⟨#[32]⟩ : ByteArray)) ++ t302) ++ (⟨#[32]⟩ : ByteArray)) ++ t303) ++ (⟨#[32]⟩ : ByteArray)) ++ t304).size + 1 ≤ 9223372036854775807
                    · rw [if_pos c16] at H
                      have c16b0 := eq_true c16
                      have c16b1 : decide ((((((((rdOf ByteArray.empty t298 a0_0) ++ (⟨#[32]⟩ : ByteArray)) ++ t302) ++ (⟨#[32]⟩ : ByteArray)) ++ t303) ++ (⟨#[32]⟩ : ByteArray)) ++ t304).size + 1 ≤ 9223372036854775807) = true := decide_eq_true c16
                      try have c16b2 : (9223372036854775807 < (((((((rdOf ByteArray.empty t298 a0_0) ++ (⟨#[32]⟩ : ByteArray)) ++ t302) ++ (⟨#[32]⟩ : ByteArray)) ++ t303) ++ (⟨#[32]⟩ : ByteArray)) ++ t304).size + 1) = False := eq_false (Nat.not_lt.2 c16)
                      have c16z : (rdOf ByteArray.empty t298 a0_0).size + 1 + t302.size + 1 + t303.size + 1 + t304.size + 1 ≤ 9223372036854775807 := by have h_ := c16; simp only [ByteArray.size_append] at h_; exact h_
                      have c16y := eq_false (Nat.not_lt.2 c16z)
                      have c16x := decide_eq_true c16z
                      clear c16z
                      replace H := Option.bind_eq_some_iff.mp H
                      obtain ⟨t305, A170, H⟩ := H
                      replace H : (if ((((((((rdOf ByteArray.empty t298 a0_0) ++ (⟨#[32]⟩ : ByteArray)) ++ t302) ++ (⟨#[32]⟩ : ByteArray)) ++ t303) ++ (⟨#[32]⟩ : ByteArray)) ++ t304) ++ (⟨#[32]⟩ : ByteArray)).size + t305.size ≤ 9223372036854775807 then (if (((((((((rdOf ByteArray.empty t298 a0_0) ++ (⟨#[32]⟩ : ByteArray)) ++ t302) ++ (⟨#[32]⟩ : ByteArray)) ++ t303) ++ (⟨#[32]⟩ : ByteArray)) ++ t304) ++ (⟨#[32]⟩ : ByteArray)) ++ t305).size + 1 ≤ 9223372036854775807 then ((spec_l6Dec.f k a0_5).bind fun t306 => (if ((((((((((rdOf ByteArray.empty t298 a0_0) ++ (⟨#[32]⟩ : ByteArray)) ++ t302) ++ (⟨#[32]⟩ : ByteArray)) ++ t303) ++ (⟨#[32]⟩ : ByteArray)) ++ t304) ++ (⟨#[32]⟩ : ByteArray)) ++ t305) ++ (⟨#[32]⟩ : ByteArray)).size + t306.size ≤ 9223372036854775807 then (if (((((((((((rdOf ByteArray.empty t298 a0_0) ++ (⟨#[32]⟩ : ByteArray)) ++ t302) ++ (⟨#[32]⟩ : ByteArray)) ++ t303) ++ (⟨#[32]⟩ : ByteArray)) ++ t304) ++ (⟨#[32]⟩ : ByteArray)) ++ t305) ++ (⟨#[32]⟩ : ByteArray)) ++ t306).size + 1 ≤ 9223372036854775807 then ((spec_l6Dec.f k a0_6).bind fun t307 => (if ((((((((((((rdOf ByteArray.empty t298 a0_0) ++ (⟨#[32]⟩ : ByteArray)) ++ t302) ++ (⟨#[32]⟩ : ByteArray)) ++ t303) ++ (⟨#[32]⟩ : ByteArray)) ++ t304) ++ (⟨#[32]⟩ : ByteArray)) ++ t305) ++ (⟨#[32]⟩ : ByteArray)) ++ t306) ++ (⟨#[32]⟩ : ByteArray)).size + t307.size ≤ 9223372036854775807 then (if (((((((((((((rdOf ByteArray.empty t298 a0_0) ++ (⟨#[32]⟩ : ByteArray)) ++ t302) ++ (⟨#[32]⟩ : ByteArray)) ++ t303) ++ (⟨#[32]⟩ : ByteArray)) ++ t304) ++ (⟨#[32]⟩ : ByteArray)) ++ t305) ++ (⟨#[32]⟩ : ByteArray)) ++ t306) ++ (⟨#[32]⟩ : ByteArray)) ++ t307).size + 1 ≤ 9223372036854775807 then ((spec_l6Dec.f k a0_7).bind fun t308 => (if ((((((((((((((rdOf ByteArray.empty t298 a0_0) ++ (⟨#[32]⟩ : ByteArray)) ++ t302) ++ (⟨#[32]⟩ : ByteArray)) ++ t303) ++ (⟨#[32]⟩ : ByteArray)) ++ t304) ++ (⟨#[32]⟩ : ByteArray)) ++ t305) ++ (⟨#[32]⟩ : ByteArray)) ++ t306) ++ (⟨#[32]⟩ : ByteArray)) ++ t307) ++ (⟨#[32]⟩ : ByteArray)).size + t308.size ≤ 9223372036854775807 then (some (((((((((((((((rdOf ByteArray.empty t298 a0_0) ++ (⟨#[32]⟩ : ByteArray)) ++ t302) ++ (⟨#[32]⟩ : ByteArray)) ++ t303) ++ (⟨#[32]⟩ : ByteArray)) ++ t304) ++ (⟨#[32]⟩ : ByteArray)) ++ t305) ++ (⟨#[32]⟩ : ByteArray)) ++ t306) ++ (⟨#[32]⟩ : ByteArray)) ++ t307) ++ (⟨#[32]⟩ : ByteArray)) ++ t308)) else (none))) else (none)) else (none))) else (none)) else (none))) else (none)) else (none)) = some r := H
                      have A17 := Aside0.mk A170
                      clear A170
                      by_cases c18 : ((((((((rdOf ByteArray.empty t298 a0_0) ++ (⟨#[32]⟩ : ByteArray)) ++ t302) ++ (⟨#[32]⟩ : ByteArray)) ++ t303) ++ (⟨#[32]⟩ : ByteArray)) ++ t304) ++ (⟨#[32]⟩ : ByteArray)).size + t305.size ≤ 9223372036854775807
                      · rw [if_pos c18] at H
                        have c18b0 := eq_true c18
                        have c18b1 : decide (((((((((rdOf ByteArray.empty t298 a0_0) ++ (⟨#[32]⟩ : ByteArray)) ++ t302) ++ (⟨#[32]⟩ : ByteArray)) ++ t303) ++ (⟨#[32]⟩ : ByteArray)) ++ t304) ++ (⟨#[32]⟩ : ByteArray)).size + t305.size ≤ 9223372036854775807) = true := decide_eq_true c18
                        try have c18b2 : (9223372036854775807 < ((((((((rdOf ByteArray.empty t298 a0_0) ++ (⟨#[32]⟩ : ByteArray)) ++ t302) ++ (⟨#[32]⟩ : ByteArray)) ++ t303) ++ (⟨#[32]⟩ : ByteArray)) ++ t304) ++ (⟨#[32]⟩ : ByteArray)).size + t305.size) = False := eq_false (Nat.not_lt.2 c18)
                        have c18z : (rdOf ByteArray.empty t298 a0_0).size + 1 + t302.size + 1 + t303.size + 1 + t304.size + 1 + t305.size ≤ 9223372036854775807 := by have h_ := c18; simp only [ByteArray.size_append] at h_; exact h_
                        have c18y := eq_false (Nat.not_lt.2 c18z)
                        have c18x := decide_eq_true c18z
                        clear c18z
                        by_cases c19 : (((((((((rdOf ByteArray.empty t298 a0_0) ++ (⟨#[32]⟩ : ByteArray)) ++ t302) ++ (⟨#[32]⟩ : ByteArray)) ++ t303) ++ (⟨#[32]⟩ : ByteArray)) ++ t304) ++ (⟨#[32]⟩ : ByteArray)) ++ t305).size + 1 ≤ 9223372036854775807
                        · rw [if_pos c19] at H
                          have c19b0 := eq_true c19
                          have c19b1 : decide ((((((((((rdOf ByteArray.empty t298 a0_0) ++ (⟨#[32]⟩ : ByteArray)) ++ t302) ++ (⟨#[32]⟩ : ByteArray)) ++ t303) ++ (⟨#[32]⟩ : ByteArray)) ++ t304) ++ (⟨#[32]⟩ : ByteArray)) ++ t305).size + 1 ≤ 9223372036854775807) = true := decide_eq_true c19
                          try have c19b2 : (9223372036854775807 < (((((((((rdOf ByteArray.empty t298 a0_0) ++ (⟨#[32]⟩ : ByteArray)) ++ t302) ++ (⟨#[32]⟩ : ByteArray)) ++ t303) ++ (⟨#[32]⟩ : ByteArray)) ++ t304) ++ (⟨#[32]⟩ : ByteArray)) ++ t305).size + 1) = False := eq_false (Nat.not_lt.2 c19)
                          have c19z : (rdOf ByteArray.empty t298 a0_0).size + 1 + t302.size + 1 + t303.size + 1 + t304.size + 1 + t305.size + 1 ≤ 9223372036854775807 := by have h_ := c19; simp only [ByteArray.size_append] at h_; exact h_
                          have c19y := eq_false (Nat.not_lt.2 c19z)
                          have c19x := decide_eq_true c19z
                          clear c19z
                          replace H := Option.bind_eq_some_iff.mp H
                          obtain ⟨t306, A200, H⟩ := H
                          replace H : (if ((((((((((rdOf ByteArray.empty t298 a0_0) ++ (⟨#[32]⟩ : ByteArray)) ++ t302) ++ (⟨#[32]⟩ : ByteArray)) ++ t303) ++ (⟨#[32]⟩ : ByteArray)) ++ t304) ++ (⟨#[32]⟩ : ByteArray)) ++ t305) ++ (⟨#[32]⟩ : ByteArray)).size + t306.size ≤ 9223372036854775807 then (if (((((((((((rdOf ByteArray.empty t298 a0_0) ++ (⟨#[32]⟩ : ByteArray)) ++ t302) ++ (⟨#[32]⟩ : ByteArray)) ++ t303) ++ (⟨#[32]⟩ : ByteArray)) ++ t304) ++ (⟨#[32]⟩ : ByteArray)) ++ t305) ++ (⟨#[32]⟩ : ByteArray)) ++ t306).size + 1 ≤ 9223372036854775807 then ((spec_l6Dec.f k a0_6).bind fun t307 => (if ((((((((((((rdOf ByteArray.empty t298 a0_0) ++ (⟨#[32]⟩ : ByteArray)) ++ t302) ++ (⟨#[32]⟩ : ByteArray)) ++ t303) ++ (⟨#[32]⟩ : ByteArray)) ++ t304) ++ (⟨#[32]⟩ : ByteArray)) ++ t305) ++ (⟨#[32]⟩ : ByteArray)) ++ t306) ++ (⟨#[32]⟩ : ByteArray)).size + t307.size ≤ 9223372036854775807 then (if (((((((((((((rdOf ByteArray.empty t298 a0_0) ++ (⟨#[32]⟩ : ByteArray)) ++ t302) ++ (⟨#[32]⟩ : ByteArray)) ++ t303) ++ (⟨#[32]⟩ : ByteArray)) ++ t304) ++ (⟨#[32]⟩ : ByteArray)) ++ t305) ++ (⟨#[32]⟩ : ByteArray)) ++ t306) ++ (⟨#[32]⟩ : ByteArray)) ++ t307).size + 1 ≤ 9223372036854775807 then ((spec_l6Dec.f k a0_7).bind fun t308 => (if ((((((((((((((rdOf ByteArray.empty t298 a0_0) ++ (⟨#[32]⟩ : ByteArray)) ++ t302) ++ (⟨#[32]⟩ : ByteArray)) ++ t303) ++ (⟨#[32]⟩ : ByteArray)) ++ t304) ++ (⟨#[32]⟩ : ByteArray)) ++ t305) ++ (⟨#[32]⟩ : ByteArray)) ++ t306) ++ (⟨#[32]⟩ : ByteArray)) ++ t307) ++ (⟨#[32]⟩ : ByteArray)).size + t308.size ≤ 9223372036854775807 then (some (((((((((((((((rdOf ByteArray.empty t298 a0_0) ++ (⟨#[32]⟩ : ByteArray)) ++ t302) ++ (⟨#[32]⟩ : ByteArray)) ++ t303) ++ (⟨#[32]⟩ : ByteArray)) ++ t304) ++ (⟨#[32]⟩ : ByteArray)) ++ t305) ++ (⟨#[32]⟩ : ByteArray)) ++ t306) ++ (⟨#[32]⟩ : ByteArray)) ++ t307) ++ (⟨#[32]⟩ : ByteArray)) ++ t308)) else (none))) else (none)) else (none))) else (none)) else (none)) = some r := H
                          have A20 := Aside0.mk A200
                          clear A200
                          by_cases c21 : ((((((((((rdOf ByteArray.empty t298 a0_0) ++ (⟨#[32]⟩ : ByteArray)) ++ t302) ++ (⟨#[32]⟩ : ByteArray)) ++ t303) ++ (⟨#[32]⟩ : ByteArray)) ++ t304) ++ (⟨#[32]⟩ : ByteArray)) ++ t305) ++ (⟨#[32]⟩ : ByteArray)).size + t306.size ≤ 9223372036854775807
                          · rw [if_pos c21] at H
                            have c21b0 := eq_true c21
                            have c21b1 : decide (((((((((((rdOf ByteArray.empty t298 a0_0) ++ (⟨#[32]⟩ : ByteArray)) ++ t302) ++ (⟨#[32]⟩ : ByteArray)) ++ t303) ++ (⟨#[32]⟩ : ByteArray)) ++ t304) ++ (⟨#[32]⟩ : ByteArray)) ++ t305) ++ (⟨#[32]⟩ : ByteArray)).size + t306.size ≤ 9223372036854775807) = true := decide_eq_true c21
                            try have c21b2 : (9223372036854775807 < ((((((((((rdOf ByteArray.empty t298 a0_0) ++ (⟨#[32]⟩ : ByteArray)) ++ t302) ++ (⟨#[32]⟩ : ByteArray)) ++ t303) ++ (⟨#[32]⟩ : ByteArray)) ++ t304) ++ (⟨#[32]⟩ : ByteArray)) ++ t305) ++ (⟨#[32]⟩ : ByteArray)).size + t306.size) = False := eq_false (Nat.not_lt.2 c21)
                            have c21z : (rdOf ByteArray.empty t298 a0_0).size + 1 + t302.size + 1 + t303.size + 1 + t304.size + 1 + t305.size + 1 + t306.size ≤ 9223372036854775807 := by have h_ := c21; simp only [ByteArray.size_append] at h_; exact h_
                            have c21y := eq_false (Nat.not_lt.2 c21z)
                            have c21x := decide_eq_true c21z
                            clear c21z
                            by_cases c22 : (((((((((((rdOf ByteArray.empty t298 a0_0) ++ (⟨#[32]⟩ : ByteArray)) ++ t302) ++ (⟨#[32]⟩ : ByteArray)) ++ t303) ++ (⟨#[32]⟩ : ByteArray)) ++ t304) ++ (⟨#[32]⟩ : ByteArray)) ++ t305) ++ (⟨#[32]⟩ : ByteArray)) ++ t306).size + 1 ≤ 9223372036854775807
                            · rw [if_pos c22] at H
                              have c22b0 := eq_true c22
                              have c22b1 : decide ((((((((((((rdOf ByteArray.empty t298 a0_0) ++ (⟨#[32]⟩ : ByteArray)) ++ t302) ++ (⟨#[32]⟩ : ByteArray)) ++ t303) ++ (⟨#[32]⟩ : ByteArray)) ++ t304) ++ (⟨#[32]⟩ : ByteArray)) ++ t305) ++ (⟨#[32]⟩ : ByteArray)) ++ t306).size + 1 ≤ 9223372036854775807) = true := decide_eq_true c22
                              try have c22b2 : (9223372036854775807 < (((((((((((rdOf ByteArray.empty t298 a0_0) ++ (⟨#[32]⟩ : ByteArray)) ++ t302) ++ (⟨#[32]⟩ : ByteArray)) ++ t303) ++ (⟨#[32]⟩ : ByteArray)) ++ t304) ++ (⟨#[32]⟩ : ByteArray)) ++ t305) ++ (⟨#[32]⟩ : ByteArray)) ++ t306).size + 1) = False := eq_false (Nat.not_lt.2 c22)
                              have c22z : (rdOf ByteArray.empty t298 a0_0).size + 1 + t302.size + 1 + t303.size + 1 + t304.size + 1 + t305.size + 1 + t306.size + 1 ≤ 9223372036854775807 := by have h_ := c22; simp only [ByteArray.size_append] at h_; exact h_
                              have c22y := eq_false (Nat.not_lt.2 c22z)
                              have c22x := decide_eq_true c22z
                              clear c22z
                              replace H := Option.bind_eq_some_iff.mp H
                              obtain ⟨t307, A230, H⟩ := H
                              replace H : (if ((((((((((((rdOf ByteArray.empty t298 a0_0) ++ (⟨#[32]⟩ : ByteArray)) ++ t302) ++ (⟨#[32]⟩ : ByteArray)) ++ t303) ++ (⟨#[32]⟩ : ByteArray)) ++ t304) ++ (⟨#[32]⟩ : ByteArray)) ++ t305) ++ (⟨#[32]⟩ : ByteArray)) ++ t306) ++ (⟨#[32]⟩ : ByteArray)).size + t307.size ≤ 9223372036854775807 then (if (((((((((((((rdOf ByteArray.empty t298 a0_0) ++ (⟨#[32]⟩ : ByteArray)) ++ t302) ++ (⟨#[32]⟩ : ByteArray)) ++ t303) ++ (⟨#[32]⟩ : ByteArray)) ++ t304) ++ (⟨#[32]⟩ : ByteArray)) ++ t305) ++ (⟨#[32]⟩ : ByteArray)) ++ t306) ++ (⟨#[32]⟩ : ByteArray)) ++ t307).size + 1 ≤ 9223372036854775807 then ((spec_l6Dec.f k a0_7).bind fun t308 => (if ((((((((((((((rdOf ByteArray.empty t298 a0_0) ++ (⟨#[32]⟩ : ByteArray)) ++ t302) ++ (⟨#[32]⟩ : ByteArray)) ++ t303) ++ (⟨#[32]⟩ : ByteArray)) ++ t304) ++ (⟨#[32]⟩ : ByteArray)) ++ t305) ++ (⟨#[32]⟩ : ByteArray)) ++ t306) ++ (⟨#[32]⟩ : ByteArray)) ++ t307) ++ (⟨#[32]⟩ : ByteArray)).size + t308.size ≤ 9223372036854775807 then (some (((((((((((((((rdOf ByteArray.empty t298 a0_0) ++ (⟨#[32]⟩ : ByteArray)) ++ t302) ++ (⟨#[32]⟩ : ByteArray)) ++ t303) ++ (⟨#[32]⟩ : ByteArray)) ++ t304) ++ (⟨#[32]⟩ : ByteArray)) ++ t305) ++ (⟨#[32]⟩ : ByteArray)) ++ t306) ++ (⟨#[32]⟩ : ByteArray)) ++ t307) ++ (⟨#[32]⟩ : ByteArray)) ++ t308)) else (none))) else (none)) else (none)) = some r := H
                              have A23 := Aside0.mk A230
                              clear A230
                              by_cases c24 : ((((((((((((rdOf ByteArray.empty t298 a0_0) ++ (⟨#[32]⟩ : ByteArray)) ++ t302) ++ (⟨#[32]⟩ : ByteArray)) ++ t303) ++ (⟨#[32]⟩ : ByteArray)) ++ t304) ++ (⟨#[32]⟩ : ByteArray)) ++ t305) ++ (⟨#[32]⟩ : ByteArray)) ++ t306) ++ (⟨#[32]⟩ : ByteArray)).size + t307.size ≤ 9223372036854775807
                              · rw [if_pos c24] at H
                                have c24b0 := eq_true c24
                                have c24b1 : decide (((((((((((((rdOf ByteArray.empty t298 a0_0) ++ (⟨#[32]⟩ : ByteArray)) ++ t302) ++ (⟨#[32]⟩ : ByteArray)) ++ t303) ++ (⟨#[32]⟩ : ByteArray)) ++ t304) ++ (⟨#[32]⟩ : ByteArray)) ++ t305) ++ (⟨#[32]⟩ : ByteArray)) ++ t306) ++ (⟨#[32]⟩ : ByteArray)).size + t307.size ≤ 9223372036854775807) = true := decide_eq_true c24
                                try have c24b2 : (9223372036854775807 < ((((((((((((rdOf ByteArray.empty t298 a0_0) ++ (⟨#[32]⟩ : ByteArray)) ++ t302) ++ (⟨#[32]⟩ : ByteArray)) ++ t303) ++ (⟨#[32]⟩ : ByteArray)) ++ t304) ++ (⟨#[32]⟩ : ByteArray)) ++ t305) ++ (⟨#[32]⟩ : ByteArray)) ++ t306) ++ (⟨#[32]⟩ : ByteArray)).size + t307.size) = False := eq_false (Nat.not_lt.2 c24)
                                have c24z : (rdOf ByteArray.empty t298 a0_0).size + 1 + t302.size + 1 + t303.size + 1 + t304.size + 1 + t305.size + 1 + t306.size + 1 + t307.size ≤ 9223372036854775807 := by have h_ := c24; simp only [ByteArray.size_append] at h_; exact h_
                                have c24y := eq_false (Nat.not_lt.2 c24z)
                                have c24x := decide_eq_true c24z
                                clear c24z
                                by_cases c25 : (((((((((((((rdOf ByteArray.empty t298 a0_0) ++ (⟨#[32]⟩ : ByteArray)) ++ t302) ++ (⟨#[32]⟩ : ByteArray)) ++ t303) ++ (⟨#[32]⟩ : ByteArray)) ++ t304) ++ (⟨#[32]⟩ : ByteArray)) ++ t305) ++ (⟨#[32]⟩ : ByteArray)) ++ t306) ++ (⟨#[32]⟩ : ByteArray)) ++ t307).size + 1 ≤ 9223372036854775807
                                · rw [if_pos c25] at H
                                  have c25b0 := eq_true c25
                                  have c25b1 : decide ((((((((((((((rdOf ByteArray.empty t298 a0_0) ++ (⟨#[32]⟩ : ByteArray)) ++ t302) ++ (⟨#[32]⟩ : ByteArray)) ++ t303) ++ (⟨#[32]⟩ : ByteArray)) ++ t304) ++ (⟨#[32]⟩ : ByteArray)) ++ t305) ++ (⟨#[32]⟩ : ByteArray)) ++ t306) ++ (⟨#[32]⟩ : ByteArray)) ++ t307).size + 1 ≤ 9223372036854775807) = true := decide_eq_true c25
                                  try have c25b2 : (9223372036854775807 < (((((((((((((rdOf ByteArray.empty t298 a0_0) ++ (⟨#[32]⟩ : ByteArray)) ++ t302) ++ (⟨#[32]⟩ : ByteArray)) ++ t303) ++ (⟨#[32]⟩ : ByteArray)) ++ t304) ++ (⟨#[32]⟩ : ByteArray)) ++ t305) ++ (⟨#[32]⟩ : ByteArray)) ++ t306) ++ (⟨#[32]⟩ : ByteArray)) ++ t307).size + 1) = False := eq_false (Nat.not_lt.2 c25)
                                  have c25z : (rdOf ByteArray.empty t298 a0_0).size + 1 + t302.size + 1 + t303.size + 1 + t304.size + 1 + t305.size + 1 + t306.size + 1 + t307.size + 1 ≤ 9223372036854775807 := by have h_ := c25; simp only [ByteArray.size_append] at h_; exact h_
                                  have c25y := eq_false (Nat.not_lt.2 c25z)
                                  have c25x := decide_eq_true c25z
                                  clear c25z
                                  replace H := Option.bind_eq_some_iff.mp H
                                  obtain ⟨t308, A260, H⟩ := H
                                  replace H : (if ((((((((((((((rdOf ByteArray.empty t298 a0_0) ++ (⟨#[32]⟩ : ByteArray)) ++ t302) ++ (⟨#[32]⟩ : ByteArray)) ++ t303) ++ (⟨#[32]⟩ : ByteArray)) ++ t304) ++ (⟨#[32]⟩ : ByteArray)) ++ t305) ++ (⟨#[32]⟩ : ByteArray)) ++ t306) ++ (⟨#[32]⟩ : ByteArray)) ++ t307) ++ (⟨#[32]⟩ : ByteArray)).size + t308.size ≤ 9223372036854775807 then (some (((((((((((((((rdOf ByteArray.empty t298 a0_0) ++ (⟨#[32]⟩ : ByteArray)) ++ t302) ++ (⟨#[32]⟩ : ByteArray)) ++ t303) ++ (⟨#[32]⟩ : ByteArray)) ++ t304) ++ (⟨#[32]⟩ : ByteArray)) ++ t305) ++ (⟨#[32]⟩ : ByteArray)) ++ t306) ++ (⟨#[32]⟩ : ByteArray)) ++ t307) ++ (⟨#[32]⟩ : ByteArray)) ++ t308)) else (none)) = some r := H
                                  have A26 := Aside0.mk A260
                                  clear A260
                                  by_cases c27 : ((((((((((((((rdOf ByteArray.empty t298 a0_0) ++ (⟨#[32]⟩ : ByteArray)) ++ t302) ++ (⟨#[32]⟩ : ByteArray)) ++ t303) ++ (⟨#[32]⟩ : ByteArray)) ++ t304) ++ (⟨#[32]⟩ : ByteArray)) ++ t305) ++ (⟨#[32]⟩ : ByteArray)) ++ t306) ++ (⟨#[32]⟩ : ByteArray)) ++ t307) ++ (⟨#[32]⟩ : ByteArray)).size + t308.size ≤ 9223372036854775807
                                  · rw [if_pos c27] at H
                                    have c27b0 := eq_true c27
                                    have c27b1 : decide (((((((((((((((rdOf ByteArray.empty t298 a0_0) ++ (⟨#[32]⟩ : ByteArray)) ++ t302) ++ (⟨#[32]⟩ : ByteArray)) ++ t303) ++ (⟨#[32]⟩ : ByteArray)) ++ t304) ++ (⟨#[32]⟩ : ByteArray)) ++ t305) ++ (⟨#[32]⟩ : ByteArray)) ++ t306) ++ (⟨#[32]⟩ : ByteArray)) ++ t307) ++ (⟨#[32]⟩ : ByteArray)).size + t308.size ≤ 9223372036854775807) = true := decide_eq_true c27
                                    try have c27b2 : (9223372036854775807 < ((((((((((((((rdOf ByteArray.empty t298 a0_0) ++ (⟨#[32]⟩ : ByteArray)) ++ t302) ++ (⟨#[32]⟩ : ByteArray)) ++ t303) ++ (⟨#[32]⟩ : ByteArray)) ++ t304) ++ (⟨#[32]⟩ : ByteArray)) ++ t305) ++ (⟨#[32]⟩ : ByteArray)) ++ t306) ++ (⟨#[32]⟩ : ByteArray)) ++ t307) ++ (⟨#[32]⟩ : ByteArray)).size + t308.size) = False := eq_false (Nat.not_lt.2 c27)
                                    have c27z : (rdOf ByteArray.empty t298 a0_0).size + 1 + t302.size + 1 + t303.size + 1 + t304.size + 1 + t305.size + 1 + t306.size + 1 + t307.size + 1 + t308.size ≤ 9223372036854775807 := by have h_ := c27; simp only [ByteArray.size_append] at h_; exact h_
                                    have c27y := eq_false (Nat.not_lt.2 c27z)
                                    have c27x := decide_eq_true c27z
                                    clear c27z
                                    obtain rfl := Option.some.inj H
                                    go_enter Tryd.func20, Tryd.ntmps20
                                    try go_wp2_with (first | ((with_reducible refine gate_dst (N := 1) rfl ?_); refine box_event ?hg (N := 1) ?hd (cs := #[.int .i64 a0_0, .int .i64 a0_1, .int .i64 a0_2, .int .i64 a0_3, .int .i64 a0_4, .int .i64 a0_5, .int .i64 a0_6, .int .i64 a0_7]) (t := 37) ?hr ?_; (case hd => rfl); (case hg => rfl); (case hr => first | (go_simp; done) | (go_simp; rfl)); intro gb296 hg w28 hbox hb; have n0_ := Aside0.mk (below_step (by repeat (first | (with_reducible first | exact HB.out | apply below_alloc | apply pw_below_drewN | apply below_drew1) | exact HB.out)) hb); have n1_ := Aside0.mk (hbox); have n2_ := Aside0.mk ((by rw [hg]; exact (below_size (by repeat (first | (with_reducible first | exact HB.out | apply below_alloc | apply pw_below_drewN | apply below_drew1) | exact HB.out))) : w.heap.size ≤ gb296)); have n3_ := Aside0.mk ((by rw [hg]; exact (below_size (by repeat (first | (with_reducible first | exact HB.out | apply below_alloc | apply pw_below_drewN | apply below_drew1) | exact HB.out))) : w.heap.size ≤ gb296)); clear HB; have HB := n0_; have BK296 := n1_; have GW296 := n2_; have GE296 := n3_; clear n0_ n1_ n2_ n3_; clear hb hbox hg; have hcz29_0 : w28.cell? ⟨gb296, 0, none⟩ = some (.int .i64 a0_0) := (blk_cell BK296.out 0).trans rfl; have hcz29_1 : w28.cell? ⟨gb296, 1, none⟩ = some (.int .i64 a0_1) := (blk_cell BK296.out 1).trans rfl; have hcz29_2 : w28.cell? ⟨gb296, 2, none⟩ = some (.int .i64 a0_2) := (blk_cell BK296.out 2).trans rfl; have hcz29_3 : w28.cell? ⟨gb296, 3, none⟩ = some (.int .i64 a0_3) := (blk_cell BK296.out 3).trans rfl; have hcz29_4 : w28.cell? ⟨gb296, 4, none⟩ = some (.int .i64 a0_4) := (blk_cell BK296.out 4).trans rfl; have hcz29_5 : w28.cell? ⟨gb296, 5, none⟩ = some (.int .i64 a0_5) := (blk_cell BK296.out 5).trans rfl; have hcz29_6 : w28.cell? ⟨gb296, 6, none⟩ = some (.int .i64 a0_6) := (blk_cell BK296.out 6).trans rfl; have hcz29_7 : w28.cell? ⟨gb296, 7, none⟩ = some (.int .i64 a0_7) := (blk_cell BK296.out 7).trans rfl; have hfz29_0 := blk_frozen BK296.out 0; have hfz29_1 := blk_frozen BK296.out 1; have hfz29_2 := blk_frozen BK296.out 2; have hfz29_3 := blk_frozen BK296.out 3; have hfz29_4 := blk_frozen BK296.out 4; have hfz29_5 := blk_frozen BK296.out 5; have hfz29_6 := blk_frozen BK296.out 6; have hfz29_7 := blk_frozen BK296.out 7) | ((with_reducible refine gate_callee (f := 43) rfl ?_); refine goesL_ (some 4) rfl rfl Tryd.func43 (by kernel_rfl) rfl #[.agg #[.int .i64 a0_0, .int .i64 a0_1, .int .i64 a0_2, .int .i64 a0_3, .int .i64 a0_4, .int .i64 a0_5, .int .i64 a0_6, .int .i64 a0_7]] rfl (by (try simp only [List.map_toArray, List.map_cons, List.map_nil]); first | done | rfl | (simp only [List.length_drop, List.length_take]; rfl)) ?_; (with_reducible refine (spec_RecOk.calls k a0_0 a0_1 a0_2 a0_3 a0_4 a0_5 a0_6 a0_7 true _ A2.out).mono ?_); rintro e w30 ⟨rfl, hb⟩; refine ⟨_, rfl, ?_⟩; have n0_ := Aside0.mk (blk_below (g := gb296) (o := .cells #[.int .i64 a0_0, .int .i64 a0_1, .int .i64 a0_2, .int .i64 a0_3, .int .i64 a0_4, .int .i64 a0_5, .int .i64 a0_6, .int .i64 a0_7] 37 (0, 0)) (by (with_reducible repeat (first | refine blk_drewN ?_ _ | refine blk_drew ?_ | refine blk_alloc ?_ _)); exact BK296.out) hb); have n1_ := Aside0.mk (below_step (by repeat (first | (with_reducible first | exact HB.out | apply below_alloc | apply pw_below_drewN | apply below_drew1 | refine below_set ?_ GE296.out) | exact HB.out)) hb); clear BK296; clear HB; have BK296 := n0_; have HB := n1_; clear n0_ n1_; (try clear hb); (try clear hb2); (try clear hk); (try clear hi)))
                                    have n0_ := Aside0.mk (blk_drew BK296.out)
                                    have n1_ := Aside0.mk (below_drew1 HB.out)
                                    clear BK296
                                    clear HB
                                    have BK296 := n0_
                                    have HB := n1_
                                    clear n0_ n1_
                                    refine start_ (n := 41) (S := fun w' => w'.cell? ⟨gb296, 0, none⟩ = some (.int .i64 a0_0) ∧ w'.cell? ⟨gb296, 1, none⟩ = some (.int .i64 a0_1) ∧ w'.cell? ⟨gb296, 2, none⟩ = some (.int .i64 a0_2) ∧ w'.cell? ⟨gb296, 3, none⟩ = some (.int .i64 a0_3) ∧ w'.cell? ⟨gb296, 4, none⟩ = some (.int .i64 a0_4) ∧ w'.cell? ⟨gb296, 5, none⟩ = some (.int .i64 a0_5) ∧ w'.cell? ⟨gb296, 6, none⟩ = some (.int .i64 a0_6) ∧ w'.cell? ⟨gb296, 7, none⟩ = some (.int .i64 a0_7)) (ds := []) #[false, false, false, false, false, false, false, false, false, false, false, false, false, false, false, false, false, false, false, false, false, false, false, false, false, false, false, false, false, false, false, false, false, false, false, false, false, false, false, false, false] (by kernel_rfl) rfl rfl ⟨(blk_cell BK296.out 0).trans rfl, (blk_cell BK296.out 1).trans rfl, (blk_cell BK296.out 2).trans rfl, (blk_cell BK296.out 3).trans rfl, (blk_cell BK296.out 4).trans rfl, (blk_cell BK296.out 5).trans rfl, (blk_cell BK296.out 6).trans rfl, (blk_cell BK296.out 7).trans rfl⟩ (fun hHeld => ?_); refine with_tabW spec_RecText.tab3 spec_RecText.bits3 (fun HT_ HW_ => ?_)
                                    generalize w30.drew = w31 at BK296 HB hHeld ⊢
                                    refine pure_ (i := 1) (N := some 7) (v := ?_) (a' := ?_) #[false, true, false, false, false, false, false, false, false, false, false, false, false, false, false, false, false, false, false, false, false, false, false, false, false, false, false, false, false, false, false, false, false, false, false, false, false, false, false, false, false] rfl rfl (any_of HT_.out (by kernel_rfl)) (fun _ _ _ h => h) (Or.inl ⟨by rfl, ?_⟩) ?_ ?_
                                    rotate_left
                                    · intro w'
                                      go_simp
                                      with_reducible rfl
                                    rotate_left
                                    · simp only [Act.put, List.setIfInBounds_toArray, List.set_cons_zero, List.set_cons_succ, i64_w, i32_w]
                                      rfl
                                    refine pure_ (i := 6) (N := some 12) (v := ?_) (a' := ?_) #[false, true, false, false, false, false, true, false, false, false, false, false, false, false, false, false, false, false, false, false, false, false, false, false, false, false, false, false, false, false, false, false, false, false, false, false, false, false, false, false, false] rfl rfl (any_of HT_.out (by kernel_rfl)) (fun _ _ _ h => h) (Or.inl ⟨by rfl, ?_⟩) ?_ ?_
                                    rotate_left
                                    · intro w'
                                      go_simp
                                      with_reducible rfl
                                    rotate_left
                                    · simp only [Act.put, List.setIfInBounds_toArray, List.set_cons_zero, List.set_cons_succ, i64_w, i32_w]
                                      rfl
                                    refine pure_ (i := 11) (N := some 17) (v := ?_) (a' := ?_) #[false, true, false, false, false, false, true, false, false, false, false, true, false, false, false, false, false, false, false, false, false, false, false, false, false, false, false, false, false, false, false, false, false, false, false, false, false, false, false, false, false] rfl rfl (any_of HT_.out (by kernel_rfl)) (fun _ _ _ h => h) (Or.inl ⟨by rfl, ?_⟩) ?_ ?_
                                    rotate_left
                                    · intro w'
                                      go_simp
                                      with_reducible rfl
                                    rotate_left
                                    · simp only [Act.put, List.setIfInBounds_toArray, List.set_cons_zero, List.set_cons_succ, i64_w, i32_w]
                                      rfl
                                    refine pure_ (i := 16) (N := some 22) (v := ?_) (a' := ?_) #[false, true, false, false, false, false, true, false, false, false, false, true, false, false, false, false, true, false, false, false, false, false, false, false, false, false, false, false, false, false, false, false, false, false, false, false, false, false, false, false, false] rfl rfl (any_of HT_.out (by kernel_rfl)) (fun _ _ _ h => h) (Or.inl ⟨by rfl, ?_⟩) ?_ ?_
                                    rotate_left
                                    · intro w'
                                      go_simp
                                      with_reducible rfl
                                    rotate_left
                                    · simp only [Act.put, List.setIfInBounds_toArray, List.set_cons_zero, List.set_cons_succ, i64_w, i32_w]
                                      rfl
                                    refine pure_ (i := 21) (N := some 27) (v := ?_) (a' := ?_) #[false, true, false, false, false, false, true, false, false, false, false, true, false, false, false, false, true, false, false, false, false, true, false, false, false, false, false, false, false, false, false, false, false, false, false, false, false, false, false, false, false] rfl rfl (any_of HT_.out (by kernel_rfl)) (fun _ _ _ h => h) (Or.inl ⟨by rfl, ?_⟩) ?_ ?_
                                    rotate_left
                                    · intro w'
                                      go_simp
                                      with_reducible rfl
                                    rotate_left
                                    · simp only [Act.put, List.setIfInBounds_toArray, List.set_cons_zero, List.set_cons_succ, i64_w, i32_w]
                                      rfl
                                    refine pure_ (i := 26) (N := some 32) (v := ?_) (a' := ?_) #[false, true, false, false, false, false, true, false, false, false, false, true, false, false, false, false, true, false, false, false, false, true, false, false, false, false, true, false, false, false, false, false, false, false, false, false, false, false, false, false, false] rfl rfl (any_of HT_.out (by kernel_rfl)) (fun _ _ _ h => h) (Or.inl ⟨by rfl, ?_⟩) ?_ ?_
                                    rotate_left
                                    · intro w'
                                      go_simp
                                      with_reducible rfl
                                    rotate_left
                                    · simp only [Act.put, List.setIfInBounds_toArray, List.set_cons_zero, List.set_cons_succ, i64_w, i32_w]
                                      rfl
                                    refine pure_ (i := 31) (N := some 37) (v := ?_) (a' := ?_) #[false, true, false, false, false, false, true, false, false, false, false, true, false, false, false, false, true, false, false, false, false, true, false, false, false, false, true, false, false, false, false, true, false, false, false, false, false, false, false, false, false] rfl rfl (any_of HT_.out (by kernel_rfl)) (fun _ _ _ h => h) (Or.inl ⟨by rfl, ?_⟩) ?_ ?_
                                    rotate_left
                                    · intro w'
                                      go_simp
                                      with_reducible rfl
                                    rotate_left
                                    · simp only [Act.put, List.setIfInBounds_toArray, List.set_cons_zero, List.set_cons_succ, i64_w, i32_w]
                                      rfl
                                    refine pure_ (i := 36) (N := some 42) (v := ?_) (a' := ?_) #[false, true, false, false, false, false, true, false, false, false, false, true, false, false, false, false, true, false, false, false, false, true, false, false, false, false, true, false, false, false, false, true, false, false, false, false, true, false, false, false, false] rfl rfl (any_of HT_.out (by kernel_rfl)) (fun _ _ _ h => h) (Or.inl ⟨by rfl, ?_⟩) ?_ ?_
                                    rotate_left
                                    · intro w'
                                      go_simp
                                      with_reducible rfl
                                    rotate_left
                                    · simp only [Act.put, List.setIfInBounds_toArray, List.set_cons_zero, List.set_cons_succ, i64_w, i32_w]
                                      rfl
                                    refine take_ (i := 2) (N := some 8) (v := ?_) (a' := ?_) #[false, true, true, false, false, false, true, false, false, false, false, true, false, false, false, false, true, false, false, false, false, true, false, false, false, false, true, false, false, false, false, true, false, false, false, false, true, false, false, false, false] rfl rfl (take_ofW HT_.out HW_.out (by kernel_rfl)) (fun _ _ _ h => h) (Or.inl ⟨by rfl, ?_⟩) hHeld ?_ ?_
                                    rotate_left
                                    · rintro w' ⟨s0, s1, s2, s3, s4, s5, s6, s7⟩
                                      go_simp
                                      with_reducible rfl
                                    rotate_left
                                    · simp only [Act.put, List.setIfInBounds_toArray, List.set_cons_zero, List.set_cons_succ, i64_w, i32_w]
                                      rfl
                                    refine take_ (i := 7) (N := some 13) (v := ?_) (a' := ?_) #[false, true, true, false, false, false, true, true, false, false, false, true, false, false, false, false, true, false, false, false, false, true, false, false, false, false, true, false, false, false, false, true, false, false, false, false, true, false, false, false, false] rfl rfl (take_ofW HT_.out HW_.out (by kernel_rfl)) (fun _ _ _ h => h) (Or.inl ⟨by rfl, ?_⟩) hHeld ?_ ?_
                                    rotate_left
                                    · rintro w' ⟨s0, s1, s2, s3, s4, s5, s6, s7⟩
                                      go_simp
                                      with_reducible rfl
                                    rotate_left
                                    · simp only [Act.put, List.setIfInBounds_toArray, List.set_cons_zero, List.set_cons_succ, i64_w, i32_w]
                                      rfl
                                    refine take_ (i := 12) (N := some 18) (v := ?_) (a' := ?_) #[false, true, true, false, false, false, true, true, false, false, false, true, true, false, false, false, true, false, false, false, false, true, false, false, false, false, true, false, false, false, false, true, false, false, false, false, true, false, false, false, false] rfl rfl (take_ofW HT_.out HW_.out (by kernel_rfl)) (fun _ _ _ h => h) (Or.inl ⟨by rfl, ?_⟩) hHeld ?_ ?_
                                    rotate_left
                                    · rintro w' ⟨s0, s1, s2, s3, s4, s5, s6, s7⟩
                                      go_simp
                                      with_reducible rfl
                                    rotate_left
                                    · simp only [Act.put, List.setIfInBounds_toArray, List.set_cons_zero, List.set_cons_succ, i64_w, i32_w]
                                      rfl
                                    refine take_ (i := 17) (N := some 23) (v := ?_) (a' := ?_) #[false, true, true, false, false, false, true, true, false, false, false, true, true, false, false, false, true, true, false, false, false, true, false, false, false, false, true, false, false, false, false, true, false, false, false, false, true, false, false, false, false] rfl rfl (take_ofW HT_.out HW_.out (by kernel_rfl)) (fun _ _ _ h => h) (Or.inl ⟨by rfl, ?_⟩) hHeld ?_ ?_
                                    rotate_left
                                    · rintro w' ⟨s0, s1, s2, s3, s4, s5, s6, s7⟩
                                      go_simp
                                      with_reducible rfl
                                    rotate_left
                                    · simp only [Act.put, List.setIfInBounds_toArray, List.set_cons_zero, List.set_cons_succ, i64_w, i32_w]
                                      rfl
                                    refine take_ (i := 22) (N := some 28) (v := ?_) (a' := ?_) #[false, true, true, false, false, false, true, true, false, false, false, true, true, false, false, false, true, true, false, false, false, true, true, false, false, false, true, false, false, false, false, true, false, false, false, false, true, false, false, false, false] rfl rfl (take_ofW HT_.out HW_.out (by kernel_rfl)) (fun _ _ _ h => h) (Or.inl ⟨by rfl, ?_⟩) hHeld ?_ ?_
                                    rotate_left
                                    · rintro w' ⟨s0, s1, s2, s3, s4, s5, s6, s7⟩
                                      go_simp
                                      with_reducible rfl
                                    rotate_left
                                    · simp only [Act.put, List.setIfInBounds_toArray, List.set_cons_zero, List.set_cons_succ, i64_w, i32_w]
                                      rfl
                                    refine take_ (i := 27) (N := some 33) (v := ?_) (a' := ?_) #[false, true, true, false, false, false, true, true, false, false, false, true, true, false, false, false, true, true, false, false, false, true, true, false, false, false, true, true, false, false, false, true, false, false, false, false, true, false, false, false, false] rfl rfl (take_ofW HT_.out HW_.out (by kernel_rfl)) (fun _ _ _ h => h) (Or.inl ⟨by rfl, ?_⟩) hHeld ?_ ?_
                                    rotate_left
                                    · rintro w' ⟨s0, s1, s2, s3, s4, s5, s6, s7⟩
                                      go_simp
                                      with_reducible rfl
                                    rotate_left
                                    · simp only [Act.put, List.setIfInBounds_toArray, List.set_cons_zero, List.set_cons_succ, i64_w, i32_w]
                                      rfl
                                    refine take_ (i := 32) (N := some 38) (v := ?_) (a' := ?_) #[false, true, true, false, false, false, true, true, false, false, false, true, true, false, false, false, true, true, false, false, false, true, true, false, false, false, true, true, false, false, false, true, true, false, false, false, true, false, false, false, false] rfl rfl (take_ofW HT_.out HW_.out (by kernel_rfl)) (fun _ _ _ h => h) (Or.inl ⟨by rfl, ?_⟩) hHeld ?_ ?_
                                    rotate_left
                                    · rintro w' ⟨s0, s1, s2, s3, s4, s5, s6, s7⟩
                                      go_simp
                                      with_reducible rfl
                                    rotate_left
                                    · simp only [Act.put, List.setIfInBounds_toArray, List.set_cons_zero, List.set_cons_succ, i64_w, i32_w]
                                      rfl
                                    refine take_ (i := 37) (N := some 43) (v := ?_) (a' := ?_) #[false, true, true, false, false, false, true, true, false, false, false, true, true, false, false, false, true, true, false, false, false, true, true, false, false, false, true, true, false, false, false, true, true, false, false, false, true, true, false, false, false] rfl rfl (take_ofW HT_.out HW_.out (by kernel_rfl)) (fun _ _ _ h => h) (Or.inl ⟨by rfl, ?_⟩) hHeld ?_ ?_
                                    rotate_left
                                    · rintro w' ⟨s0, s1, s2, s3, s4, s5, s6, s7⟩
                                      go_simp
                                      with_reducible rfl
                                    rotate_left
                                    · simp only [Act.put, List.setIfInBounds_toArray, List.set_cons_zero, List.set_cons_succ, i64_w, i32_w]
                                      rfl
                                    refine one_ (i := 0) (N := some 6) #[true, true, true, false, false, false, true, true, false, false, false, true, true, false, false, false, true, true, false, false, false, true, true, false, false, false, true, true, false, false, false, true, true, false, false, false, true, true, false, false, false] rfl rfl (one_of HT_.out (by kernel_rfl)) (by decide) (fun K hK => ?_)
                                    refine goes_ Tryd.func44 (by kernel_rfl) rfl #[] (by rfl) rfl rfl (by (try simp only [List.map_toArray, List.map_cons, List.map_nil]); first | done | rfl | (simp only [List.length_drop, List.length_take]; rfl)) ?_
                                    with_reducible refine (spec_l2Names.calls  t298 _ A4.out).mono ?_
                                    rintro e w32 ⟨v299, rfl, ho0, hb⟩
                                    refine ⟨_, rfl, ?_⟩
                                    have n0_ := Aside0.mk (Kd.R_lower ho0 (below_size (by repeat (first | (with_reducible first | exact HB.out | apply below_alloc | apply pw_below_drewN | apply below_drew1 | refine below_set ?_ GE296.out) | exact HB.out))))
                                    have n1_ := Aside0.mk (blk_below (g := gb296) (o := .cells #[.int .i64 a0_0, .int .i64 a0_1, .int .i64 a0_2, .int .i64 a0_3, .int .i64 a0_4, .int .i64 a0_5, .int .i64 a0_6, .int .i64 a0_7] 37 (0, 0)) (by (with_reducible repeat (first | refine blk_drewN ?_ _ | refine blk_drew ?_ | refine blk_alloc ?_ _)); exact BK296.out) hb)
                                    have n2_ := Aside0.mk (below_step (by repeat (first | (with_reducible first | exact HB.out | apply below_alloc | apply pw_below_drewN | apply below_drew1 | refine below_set ?_ GE296.out) | exact HB.out)) hb)
                                    clear BK296
                                    clear HB
                                    have HO300 := n0_
                                    have BK296 := n1_
                                    have HB := n2_
                                    clear n0_ n1_ n2_
                                    (try clear hb)
                                    (try clear hb2)
                                    (try clear hk)
                                    (try clear hi)
                                    (try clear ho0)
                                    obtain ⟨Ao33, co33, eo33⟩ := Kd.R_slice HO300.out
                                    (first | subst eo33 | (injection eo33 with f1_ f2_ f3_; have f4_ := f1_.symm; have f5_ := f3_.symm; clear f1_ f2_ f3_; subst f4_; subst f5_))
                                    have p301 : 0 ≤ (a0_0 : Int) := of_decide_eq_true (by first | (with_reducible assumption) | assumption)
                                    have q301 : a0_0 < (t298.length : Int) := of_decide_eq_true (by first | (with_reducible assumption) | assumption)
                                    obtain ⟨ad301, e301, hx301_0⟩ := Kd.at_string (Kd.R_reads' HO300.out).2.2 a0_0 p301 q301
                                    cases e301
                                    replace p301 := eq_true p301
                                    replace q301 := eq_true q301
                                    refine hK.out _ _ ⟨(blk_cell BK296.out 0).trans rfl, (blk_cell BK296.out 1).trans rfl, (blk_cell BK296.out 2).trans rfl, (blk_cell BK296.out 3).trans rfl, (blk_cell BK296.out 4).trans rfl, (blk_cell BK296.out 5).trans rfl, (blk_cell BK296.out 6).trans rfl, (blk_cell BK296.out 7).trans rfl⟩ (fun hHeld => ?_)
                                    clear hK K
                                    refine switch_ (fun w' => w'.cell? ⟨gb296, 0, none⟩ = some (.int .i64 a0_0) ∧ w'.cell? ⟨gb296, 1, none⟩ = some (.int .i64 a0_1) ∧ w'.cell? ⟨gb296, 2, none⟩ = some (.int .i64 a0_2) ∧ w'.cell? ⟨gb296, 3, none⟩ = some (.int .i64 a0_3) ∧ w'.cell? ⟨gb296, 4, none⟩ = some (.int .i64 a0_4) ∧ w'.cell? ⟨gb296, 5, none⟩ = some (.int .i64 a0_5) ∧ w'.cell? ⟨gb296, 6, none⟩ = some (.int .i64 a0_6) ∧ w'.cell? ⟨gb296, 7, none⟩ = some (.int .i64 a0_7) ∧ w'.cell? (ad301.add (a0_0).toNat) = some (.string (rdOf ByteArray.empty t298 a0_0))) (fun _ h => ⟨h.1, h.2.1, h.2.2.1, h.2.2.2.1, h.2.2.2.2.1, h.2.2.2.2.2.1, h.2.2.2.2.2.2.1, h.2.2.2.2.2.2.2.1⟩) ⟨hHeld.1, hHeld.2.1, hHeld.2.2.1, hHeld.2.2.2.1, hHeld.2.2.2.2.1, hHeld.2.2.2.2.2.1, hHeld.2.2.2.2.2.2.1, hHeld.2.2.2.2.2.2.2, hx301_0⟩ (fun hHeld => ?_)
                                    refine norm_ (a' := ?_) ?_ ?_
                                    rotate_left
                                    · show Act.put _ (some 6) _ = _
                                      simp only [Act.put, List.setIfInBounds_toArray, List.set_cons_zero, List.set_cons_succ, i64_w, i32_w]
                                      rfl
                                    refine pure_ (i := 3) (N := some 9) (v := ?_) (a' := ?_) #[true, true, true, true, false, false, true, true, false, false, false, true, true, false, false, false, true, true, false, false, false, true, true, false, false, false, true, true, false, false, false, true, true, false, false, false, true, true, false, false, false] rfl rfl (any_of HT_.out (by kernel_rfl)) (fun _ _ _ h => h) (Or.inl ⟨by rfl, ?_⟩) ?_ ?_
                                    rotate_left
                                    · intro w'
                                      go_simp
                                      with_reducible rfl
                                    rotate_left
                                    · simp only [Act.put, List.setIfInBounds_toArray, List.set_cons_zero, List.set_cons_succ, i64_w, i32_w]
                                      rfl
                                    refine take_ (i := 4) (N := some 10) (v := ?_) (a' := ?_) #[true, true, true, true, true, false, true, true, false, false, false, true, true, false, false, false, true, true, false, false, false, true, true, false, false, false, true, true, false, false, false, true, true, false, false, false, true, true, false, false, false] rfl rfl (take_ofW HT_.out HW_.out (by kernel_rfl)) (fun _ _ _ h => h) (Or.inl ⟨by rfl, ?_⟩) hHeld ?_ ?_
                                    rotate_left
                                    · rintro w' ⟨s0, s1, s2, s3, s4, s5, s6, s7, s8⟩
                                      go_simp
                                      with_reducible rfl
                                    rotate_left
                                    · simp only [Act.put, List.setIfInBounds_toArray, List.set_cons_zero, List.set_cons_succ, i64_w, i32_w]
                                      rfl
                                    refine pure_ (i := 5) (N := some 11) (v := ?_) (a' := ?_) #[true, true, true, true, true, true, true, true, false, false, false, true, true, false, false, false, true, true, false, false, false, true, true, false, false, false, true, true, false, false, false, true, true, false, false, false, true, true, false, false, false] rfl rfl (any_of HT_.out (by kernel_rfl)) (fun _ _ _ h => h) (Or.inl ⟨by rfl, ?_⟩) ?_ ?_
                                    rotate_left
                                    · intro w'
                                      go_simp
                                      with_reducible rfl
                                    rotate_left
                                    · simp only [Act.put, List.setIfInBounds_toArray, List.set_cons_zero, List.set_cons_succ, i64_w, i32_w]
                                      rfl
                                    refine one_ (i := 8) (N := some 14) #[true, true, true, true, true, true, true, true, true, false, false, true, true, false, false, false, true, true, false, false, false, true, true, false, false, false, true, true, false, false, false, true, true, false, false, false, true, true, false, false, false] rfl rfl (one_of HT_.out (by kernel_rfl)) (by decide) (fun K hK => ?_)
                                    refine goes_ Tryd.func37 (by kernel_rfl) rfl #[.int .i64 a0_1] (by rfl) rfl rfl (by (try simp only [List.map_toArray, List.map_cons, List.map_nil]); first | done | rfl | (simp only [List.length_drop, List.length_take]; rfl)) ?_
                                    with_reducible refine (spec_l6Dec.calls k a0_1 t302 _ A8.out).mono ?_
                                    rintro e w34 ⟨rfl, hb⟩
                                    have HS8_ := (hb.cell (World.block_lt_of_cell? _ _ (hHeld.2.2.2.2.2.2.2.2))).trans (hHeld.2.2.2.2.2.2.2.2)
                                    refine ⟨_, rfl, ?_⟩
                                    have n0_ := Aside0.mk (Kd.R_below (by (with_reducible repeat (first | apply Kd.R_alloc | apply Kd.R_drewN | apply Kd.R_drew)); exact HO300.out) hb)
                                    have n1_ := Aside0.mk (blk_below (g := gb296) (o := .cells #[.int .i64 a0_0, .int .i64 a0_1, .int .i64 a0_2, .int .i64 a0_3, .int .i64 a0_4, .int .i64 a0_5, .int .i64 a0_6, .int .i64 a0_7] 37 (0, 0)) (by (with_reducible repeat (first | refine blk_drewN ?_ _ | refine blk_drew ?_ | refine blk_alloc ?_ _)); exact BK296.out) hb)
                                    have n2_ := Aside0.mk (below_step (by repeat (first | (with_reducible first | exact HB.out | apply below_alloc | apply pw_below_drewN | apply below_drew1 | refine below_set ?_ GE296.out) | exact HB.out)) hb)
                                    clear HO300
                                    clear BK296
                                    clear HB
                                    have HO300 := n0_
                                    have BK296 := n1_
                                    have HB := n2_
                                    clear n0_ n1_ n2_
                                    (try clear hb)
                                    (try clear hb2)
                                    (try clear hk)
                                    (try clear hi)
                                    refine hK.out _ _ ⟨(blk_cell BK296.out 0).trans rfl, (blk_cell BK296.out 1).trans rfl, (blk_cell BK296.out 2).trans rfl, (blk_cell BK296.out 3).trans rfl, (blk_cell BK296.out 4).trans rfl, (blk_cell BK296.out 5).trans rfl, (blk_cell BK296.out 6).trans rfl, (blk_cell BK296.out 7).trans rfl, HS8_⟩ (fun hHeld => ?_)
                                    clear hK K
                                    refine norm_ (a' := ?_) ?_ ?_
                                    rotate_left
                                    · show Act.put _ (some 14) _ = _
                                      simp only [Act.put, List.setIfInBounds_toArray, List.set_cons_zero, List.set_cons_succ, i64_w, i32_w]
                                      rfl
                                    refine pure_ (i := 9) (N := some 15) (v := ?_) (a' := ?_) #[true, true, true, true, true, true, true, true, true, true, false, true, true, false, false, false, true, true, false, false, false, true, true, false, false, false, true, true, false, false, false, true, true, false, false, false, true, true, false, false, false] rfl rfl (any_of HT_.out (by kernel_rfl)) (fun _ _ _ h => h) (Or.inl ⟨by rfl, ?_⟩) ?_ ?_
                                    rotate_left
                                    · intro w'
                                      go_simp
                                      with_reducible rfl
                                    rotate_left
                                    · simp only [Act.put, List.setIfInBounds_toArray, List.set_cons_zero, List.set_cons_succ, i64_w, i32_w]
                                      rfl
                                    refine pure_ (i := 10) (N := some 16) (v := ?_) (a' := ?_) #[true, true, true, true, true, true, true, true, true, true, true, true, true, false, false, false, true, true, false, false, false, true, true, false, false, false, true, true, false, false, false, true, true, false, false, false, true, true, false, false, false] rfl rfl (any_of HT_.out (by kernel_rfl)) (fun _ _ _ h => h) (Or.inl ⟨by rfl, ?_⟩) ?_ ?_
                                    rotate_left
                                    · intro w'
                                      go_simp
                                      with_reducible rfl
                                    rotate_left
                                    · simp only [Act.put, List.setIfInBounds_toArray, List.set_cons_zero, List.set_cons_succ, i64_w, i32_w]
                                      rfl
                                    refine one_ (i := 13) (N := some 19) #[true, true, true, true, true, true, true, true, true, true, true, true, true, true, false, false, true, true, false, false, false, true, true, false, false, false, true, true, false, false, false, true, true, false, false, false, true, true, false, false, false] rfl rfl (one_of HT_.out (by kernel_rfl)) (by decide) (fun K hK => ?_)
                                    refine goes_ Tryd.func37 (by kernel_rfl) rfl #[.int .i64 a0_2] (by rfl) rfl rfl (by (try simp only [List.map_toArray, List.map_cons, List.map_nil]); first | done | rfl | (simp only [List.length_drop, List.length_take]; rfl)) ?_
                                    with_reducible refine (spec_l6Dec.calls k a0_2 t303 _ A11.out).mono ?_
                                    rintro e w35 ⟨rfl, hb⟩
                                    have HS8_ := (hb.cell (World.block_lt_of_cell? _ _ (hHeld.2.2.2.2.2.2.2.2))).trans (hHeld.2.2.2.2.2.2.2.2)
                                    refine ⟨_, rfl, ?_⟩
                                    have n0_ := Aside0.mk (Kd.R_below (by (with_reducible repeat (first | apply Kd.R_alloc | apply Kd.R_drewN | apply Kd.R_drew)); exact HO300.out) hb)
                                    have n1_ := Aside0.mk (blk_below (g := gb296) (o := .cells #[.int .i64 a0_0, .int .i64 a0_1, .int .i64 a0_2, .int .i64 a0_3, .int .i64 a0_4, .int .i64 a0_5, .int .i64 a0_6, .int .i64 a0_7] 37 (0, 0)) (by (with_reducible repeat (first | refine blk_drewN ?_ _ | refine blk_drew ?_ | refine blk_alloc ?_ _)); exact BK296.out) hb)
                                    have n2_ := Aside0.mk (below_step (by repeat (first | (with_reducible first | exact HB.out | apply below_alloc | apply pw_below_drewN | apply below_drew1 | refine below_set ?_ GE296.out) | exact HB.out)) hb)
                                    clear HO300
                                    clear BK296
                                    clear HB
                                    have HO300 := n0_
                                    have BK296 := n1_
                                    have HB := n2_
                                    clear n0_ n1_ n2_
                                    (try clear hb)
                                    (try clear hb2)
                                    (try clear hk)
                                    (try clear hi)
                                    refine hK.out _ _ ⟨(blk_cell BK296.out 0).trans rfl, (blk_cell BK296.out 1).trans rfl, (blk_cell BK296.out 2).trans rfl, (blk_cell BK296.out 3).trans rfl, (blk_cell BK296.out 4).trans rfl, (blk_cell BK296.out 5).trans rfl, (blk_cell BK296.out 6).trans rfl, (blk_cell BK296.out 7).trans rfl, HS8_⟩ (fun hHeld => ?_)
                                    clear hK K
                                    refine norm_ (a' := ?_) ?_ ?_
                                    rotate_left
                                    · show Act.put _ (some 19) _ = _
                                      simp only [Act.put, List.setIfInBounds_toArray, List.set_cons_zero, List.set_cons_succ, i64_w, i32_w]
                                      rfl
                                    refine pure_ (i := 14) (N := some 20) (v := ?_) (a' := ?_) #[true, true, true, true, true, true, true, true, true, true, true, true, true, true, true, false, true, true, false, false, false, true, true, false, false, false, true, true, false, false, false, true, true, false, false, false, true, true, false, false, false] rfl rfl (any_of HT_.out (by kernel_rfl)) (fun _ _ _ h => h) (Or.inl ⟨by rfl, ?_⟩) ?_ ?_
                                    rotate_left
                                    · intro w'
                                      go_simp
                                      with_reducible rfl
                                    rotate_left
                                    · simp only [Act.put, List.setIfInBounds_toArray, List.set_cons_zero, List.set_cons_succ, i64_w, i32_w]
                                      rfl
                                    refine pure_ (i := 15) (N := some 21) (v := ?_) (a' := ?_) #[true, true, true, true, true, true, true, true, true, true, true, true, true, true, true, true, true, true, false, false, false, true, true, false, false, false, true, true, false, false, false, true, true, false, false, false, true, true, false, false, false] rfl rfl (any_of HT_.out (by kernel_rfl)) (fun _ _ _ h => h) (Or.inl ⟨by rfl, ?_⟩) ?_ ?_
                                    rotate_left
                                    · intro w'
                                      go_simp
                                      with_reducible rfl
                                    rotate_left
                                    · simp only [Act.put, List.setIfInBounds_toArray, List.set_cons_zero, List.set_cons_succ, i64_w, i32_w]
                                      rfl
                                    refine one_ (i := 18) (N := some 24) #[true, true, true, true, true, true, true, true, true, true, true, true, true, true, true, true, true, true, true, false, false, true, true, false, false, false, true, true, false, false, false, true, true, false, false, false, true, true, false, false, false] rfl rfl (one_of HT_.out (by kernel_rfl)) (by decide) (fun K hK => ?_)
                                    refine goes_ Tryd.func37 (by kernel_rfl) rfl #[.int .i64 a0_3] (by rfl) rfl rfl (by (try simp only [List.map_toArray, List.map_cons, List.map_nil]); first | done | rfl | (simp only [List.length_drop, List.length_take]; rfl)) ?_
                                    with_reducible refine (spec_l6Dec.calls k a0_3 t304 _ A14.out).mono ?_
                                    rintro e w36 ⟨rfl, hb⟩
                                    have HS8_ := (hb.cell (World.block_lt_of_cell? _ _ (hHeld.2.2.2.2.2.2.2.2))).trans (hHeld.2.2.2.2.2.2.2.2)
                                    refine ⟨_, rfl, ?_⟩
                                    have n0_ := Aside0.mk (Kd.R_below (by (with_reducible repeat (first | apply Kd.R_alloc | apply Kd.R_drewN | apply Kd.R_drew)); exact HO300.out) hb)
                                    have n1_ := Aside0.mk (blk_below (g := gb296) (o := .cells #[.int .i64 a0_0, .int .i64 a0_1, .int .i64 a0_2, .int .i64 a0_3, .int .i64 a0_4, .int .i64 a0_5, .int .i64 a0_6, .int .i64 a0_7] 37 (0, 0)) (by (with_reducible repeat (first | refine blk_drewN ?_ _ | refine blk_drew ?_ | refine blk_alloc ?_ _)); exact BK296.out) hb)
                                    have n2_ := Aside0.mk (below_step (by repeat (first | (with_reducible first | exact HB.out | apply below_alloc | apply pw_below_drewN | apply below_drew1 | refine below_set ?_ GE296.out) | exact HB.out)) hb)
                                    clear HO300
                                    clear BK296
                                    clear HB
                                    have HO300 := n0_
                                    have BK296 := n1_
                                    have HB := n2_
                                    clear n0_ n1_ n2_
                                    (try clear hb)
                                    (try clear hb2)
                                    (try clear hk)
                                    (try clear hi)
                                    refine hK.out _ _ ⟨(blk_cell BK296.out 0).trans rfl, (blk_cell BK296.out 1).trans rfl, (blk_cell BK296.out 2).trans rfl, (blk_cell BK296.out 3).trans rfl, (blk_cell BK296.out 4).trans rfl, (blk_cell BK296.out 5).trans rfl, (blk_cell BK296.out 6).trans rfl, (blk_cell BK296.out 7).trans rfl, HS8_⟩ (fun hHeld => ?_)
                                    clear hK K
                                    refine norm_ (a' := ?_) ?_ ?_
                                    rotate_left
                                    · show Act.put _ (some 24) _ = _
                                      simp only [Act.put, List.setIfInBounds_toArray, List.set_cons_zero, List.set_cons_succ, i64_w, i32_w]
                                      rfl
                                    refine pure_ (i := 19) (N := some 25) (v := ?_) (a' := ?_) #[true, true, true, true, true, true, true, true, true, true, true, true, true, true, true, true, true, true, true, true, false, true, true, false, false, false, true, true, false, false, false, true, true, false, false, false, true, true, false, false, false] rfl rfl (any_of HT_.out (by kernel_rfl)) (fun _ _ _ h => h) (Or.inl ⟨by rfl, ?_⟩) ?_ ?_
                                    rotate_left
                                    · intro w'
                                      go_simp
                                      with_reducible rfl
                                    rotate_left
                                    · simp only [Act.put, List.setIfInBounds_toArray, List.set_cons_zero, List.set_cons_succ, i64_w, i32_w]
                                      rfl
                                    refine pure_ (i := 20) (N := some 26) (v := ?_) (a' := ?_) #[true, true, true, true, true, true, true, true, true, true, true, true, true, true, true, true, true, true, true, true, true, true, true, false, false, false, true, true, false, false, false, true, true, false, false, false, true, true, false, false, false] rfl rfl (any_of HT_.out (by kernel_rfl)) (fun _ _ _ h => h) (Or.inl ⟨by rfl, ?_⟩) ?_ ?_
                                    rotate_left
                                    · intro w'
                                      go_simp
                                      with_reducible rfl
                                    rotate_left
                                    · simp only [Act.put, List.setIfInBounds_toArray, List.set_cons_zero, List.set_cons_succ, i64_w, i32_w]
                                      rfl
                                    refine one_ (i := 23) (N := some 29) #[true, true, true, true, true, true, true, true, true, true, true, true, true, true, true, true, true, true, true, true, true, true, true, true, false, false, true, true, false, false, false, true, true, false, false, false, true, true, false, false, false] rfl rfl (one_of HT_.out (by kernel_rfl)) (by decide) (fun K hK => ?_)
                                    refine goes_ Tryd.func37 (by kernel_rfl) rfl #[.int .i64 a0_4] (by rfl) rfl rfl (by (try simp only [List.map_toArray, List.map_cons, List.map_nil]); first | done | rfl | (simp only [List.length_drop, List.length_take]; rfl)) ?_
                                    with_reducible refine (spec_l6Dec.calls k a0_4 t305 _ A17.out).mono ?_
                                    rintro e w37 ⟨rfl, hb⟩
                                    have HS8_ := (hb.cell (World.block_lt_of_cell? _ _ (hHeld.2.2.2.2.2.2.2.2))).trans (hHeld.2.2.2.2.2.2.2.2)
                                    refine ⟨_, rfl, ?_⟩
                                    have n0_ := Aside0.mk (Kd.R_below (by (with_reducible repeat (first | apply Kd.R_alloc | apply Kd.R_drewN | apply Kd.R_drew)); exact HO300.out) hb)
                                    have n1_ := Aside0.mk (blk_below (g := gb296) (o := .cells #[.int .i64 a0_0, .int .i64 a0_1, .int .i64 a0_2, .int .i64 a0_3, .int .i64 a0_4, .int .i64 a0_5, .int .i64 a0_6, .int .i64 a0_7] 37 (0, 0)) (by (with_reducible repeat (first | refine blk_drewN ?_ _ | refine blk_drew ?_ | refine blk_alloc ?_ _)); exact BK296.out) hb)
                                    have n2_ := Aside0.mk (below_step (by repeat (first | (with_reducible first | exact HB.out | apply below_alloc | apply pw_below_drewN | apply below_drew1 | refine below_set ?_ GE296.out) | exact HB.out)) hb)
                                    clear HO300
                                    clear BK296
                                    clear HB
                                    have HO300 := n0_
                                    have BK296 := n1_
                                    have HB := n2_
                                    clear n0_ n1_ n2_
                                    (try clear hb)
                                    (try clear hb2)
                                    (try clear hk)
                                    (try clear hi)
                                    refine hK.out _ _ ⟨(blk_cell BK296.out 0).trans rfl, (blk_cell BK296.out 1).trans rfl, (blk_cell BK296.out 2).trans rfl, (blk_cell BK296.out 3).trans rfl, (blk_cell BK296.out 4).trans rfl, (blk_cell BK296.out 5).trans rfl, (blk_cell BK296.out 6).trans rfl, (blk_cell BK296.out 7).trans rfl, HS8_⟩ (fun hHeld => ?_)
                                    clear hK K
                                    refine norm_ (a' := ?_) ?_ ?_
                                    rotate_left
                                    · show Act.put _ (some 29) _ = _
                                      simp only [Act.put, List.setIfInBounds_toArray, List.set_cons_zero, List.set_cons_succ, i64_w, i32_w]
                                      rfl
                                    refine pure_ (i := 24) (N := some 30) (v := ?_) (a' := ?_) #[true, true, true, true, true, true, true, true, true, true, true, true, true, true, true, true, true, true, true, true, true, true, true, true, true, false, true, true, false, false, false, true, true, false, false, false, true, true, false, false, false] rfl rfl (any_of HT_.out (by kernel_rfl)) (fun _ _ _ h => h) (Or.inl ⟨by rfl, ?_⟩) ?_ ?_
                                    rotate_left
                                    · intro w'
                                      go_simp
                                      with_reducible rfl
                                    rotate_left
                                    · simp only [Act.put, List.setIfInBounds_toArray, List.set_cons_zero, List.set_cons_succ, i64_w, i32_w]
                                      rfl
                                    refine pure_ (i := 25) (N := some 31) (v := ?_) (a' := ?_) #[true, true, true, true, true, true, true, true, true, true, true, true, true, true, true, true, true, true, true, true, true, true, true, true, true, true, true, true, false, false, false, true, true, false, false, false, true, true, false, false, false] rfl rfl (any_of HT_.out (by kernel_rfl)) (fun _ _ _ h => h) (Or.inl ⟨by rfl, ?_⟩) ?_ ?_
                                    rotate_left
                                    · intro w'
                                      go_simp
                                      with_reducible rfl
                                    rotate_left
                                    · simp only [Act.put, List.setIfInBounds_toArray, List.set_cons_zero, List.set_cons_succ, i64_w, i32_w]
                                      rfl
                                    refine one_ (i := 28) (N := some 34) #[true, true, true, true, true, true, true, true, true, true, true, true, true, true, true, true, true, true, true, true, true, true, true, true, true, true, true, true, true, false, false, true, true, false, false, false, true, true, false, false, false] rfl rfl (one_of HT_.out (by kernel_rfl)) (by decide) (fun K hK => ?_)
                                    refine goes_ Tryd.func37 (by kernel_rfl) rfl #[.int .i64 a0_5] (by rfl) rfl rfl (by (try simp only [List.map_toArray, List.map_cons, List.map_nil]); first | done | rfl | (simp only [List.length_drop, List.length_take]; rfl)) ?_
                                    with_reducible refine (spec_l6Dec.calls k a0_5 t306 _ A20.out).mono ?_
                                    rintro e w38 ⟨rfl, hb⟩
                                    have HS8_ := (hb.cell (World.block_lt_of_cell? _ _ (hHeld.2.2.2.2.2.2.2.2))).trans (hHeld.2.2.2.2.2.2.2.2)
                                    refine ⟨_, rfl, ?_⟩
                                    have n0_ := Aside0.mk (Kd.R_below (by (with_reducible repeat (first | apply Kd.R_alloc | apply Kd.R_drewN | apply Kd.R_drew)); exact HO300.out) hb)
                                    have n1_ := Aside0.mk (blk_below (g := gb296) (o := .cells #[.int .i64 a0_0, .int .i64 a0_1, .int .i64 a0_2, .int .i64 a0_3, .int .i64 a0_4, .int .i64 a0_5, .int .i64 a0_6, .int .i64 a0_7] 37 (0, 0)) (by (with_reducible repeat (first | refine blk_drewN ?_ _ | refine blk_drew ?_ | refine blk_alloc ?_ _)); exact BK296.out) hb)
                                    have n2_ := Aside0.mk (below_step (by repeat (first | (with_reducible first | exact HB.out | apply below_alloc | apply pw_below_drewN | apply below_drew1 | refine below_set ?_ GE296.out) | exact HB.out)) hb)
                                    clear HO300
                                    clear BK296
                                    clear HB
                                    have HO300 := n0_
                                    have BK296 := n1_
                                    have HB := n2_
                                    clear n0_ n1_ n2_
                                    (try clear hb)
                                    (try clear hb2)
                                    (try clear hk)
                                    (try clear hi)
                                    refine hK.out _ _ ⟨(blk_cell BK296.out 0).trans rfl, (blk_cell BK296.out 1).trans rfl, (blk_cell BK296.out 2).trans rfl, (blk_cell BK296.out 3).trans rfl, (blk_cell BK296.out 4).trans rfl, (blk_cell BK296.out 5).trans rfl, (blk_cell BK296.out 6).trans rfl, (blk_cell BK296.out 7).trans rfl, HS8_⟩ (fun hHeld => ?_)
                                    clear hK K
                                    refine norm_ (a' := ?_) ?_ ?_
                                    rotate_left
                                    · show Act.put _ (some 34) _ = _
                                      simp only [Act.put, List.setIfInBounds_toArray, List.set_cons_zero, List.set_cons_succ, i64_w, i32_w]
                                      rfl
                                    refine pure_ (i := 29) (N := some 35) (v := ?_) (a' := ?_) #[true, true, true, true, true, true, true, true, true, true, true, true, true, true, true, true, true, true, true, true, true, true, true, true, true, true, true, true, true, true, false, true, true, false, false, false, true, true, false, false, false] rfl rfl (any_of HT_.out (by kernel_rfl)) (fun _ _ _ h => h) (Or.inl ⟨by rfl, ?_⟩) ?_ ?_
                                    rotate_left
                                    · intro w'
                                      go_simp
                                      with_reducible rfl
                                    rotate_left
                                    · simp only [Act.put, List.setIfInBounds_toArray, List.set_cons_zero, List.set_cons_succ, i64_w, i32_w]
                                      rfl
                                    refine pure_ (i := 30) (N := some 36) (v := ?_) (a' := ?_) #[true, true, true, true, true, true, true, true, true, true, true, true, true, true, true, true, true, true, true, true, true, true, true, true, true, true, true, true, true, true, true, true, true, false, false, false, true, true, false, false, false] rfl rfl (any_of HT_.out (by kernel_rfl)) (fun _ _ _ h => h) (Or.inl ⟨by rfl, ?_⟩) ?_ ?_
                                    rotate_left
                                    · intro w'
                                      go_simp
                                      with_reducible rfl
                                    rotate_left
                                    · simp only [Act.put, List.setIfInBounds_toArray, List.set_cons_zero, List.set_cons_succ, i64_w, i32_w]
                                      rfl
                                    refine one_ (i := 33) (N := some 39) #[true, true, true, true, true, true, true, true, true, true, true, true, true, true, true, true, true, true, true, true, true, true, true, true, true, true, true, true, true, true, true, true, true, true, false, false, true, true, false, false, false] rfl rfl (one_of HT_.out (by kernel_rfl)) (by decide) (fun K hK => ?_)
                                    refine goes_ Tryd.func37 (by kernel_rfl) rfl #[.int .i64 a0_6] (by rfl) rfl rfl (by (try simp only [List.map_toArray, List.map_cons, List.map_nil]); first | done | rfl | (simp only [List.length_drop, List.length_take]; rfl)) ?_
                                    with_reducible refine (spec_l6Dec.calls k a0_6 t307 _ A23.out).mono ?_
                                    rintro e w39 ⟨rfl, hb⟩
                                    have HS8_ := (hb.cell (World.block_lt_of_cell? _ _ (hHeld.2.2.2.2.2.2.2.2))).trans (hHeld.2.2.2.2.2.2.2.2)
                                    refine ⟨_, rfl, ?_⟩
                                    have n0_ := Aside0.mk (Kd.R_below (by (with_reducible repeat (first | apply Kd.R_alloc | apply Kd.R_drewN | apply Kd.R_drew)); exact HO300.out) hb)
                                    have n1_ := Aside0.mk (blk_below (g := gb296) (o := .cells #[.int .i64 a0_0, .int .i64 a0_1, .int .i64 a0_2, .int .i64 a0_3, .int .i64 a0_4, .int .i64 a0_5, .int .i64 a0_6, .int .i64 a0_7] 37 (0, 0)) (by (with_reducible repeat (first | refine blk_drewN ?_ _ | refine blk_drew ?_ | refine blk_alloc ?_ _)); exact BK296.out) hb)
                                    have n2_ := Aside0.mk (below_step (by repeat (first | (with_reducible first | exact HB.out | apply below_alloc | apply pw_below_drewN | apply below_drew1 | refine below_set ?_ GE296.out) | exact HB.out)) hb)
                                    clear HO300
                                    clear BK296
                                    clear HB
                                    have HO300 := n0_
                                    have BK296 := n1_
                                    have HB := n2_
                                    clear n0_ n1_ n2_
                                    (try clear hb)
                                    (try clear hb2)
                                    (try clear hk)
                                    (try clear hi)
                                    refine hK.out _ _ ⟨(blk_cell BK296.out 0).trans rfl, (blk_cell BK296.out 1).trans rfl, (blk_cell BK296.out 2).trans rfl, (blk_cell BK296.out 3).trans rfl, (blk_cell BK296.out 4).trans rfl, (blk_cell BK296.out 5).trans rfl, (blk_cell BK296.out 6).trans rfl, (blk_cell BK296.out 7).trans rfl, HS8_⟩ (fun hHeld => ?_)
                                    clear hK K
                                    refine norm_ (a' := ?_) ?_ ?_
                                    rotate_left
                                    · show Act.put _ (some 39) _ = _
                                      simp only [Act.put, List.setIfInBounds_toArray, List.set_cons_zero, List.set_cons_succ, i64_w, i32_w]
                                      rfl
                                    refine pure_ (i := 34) (N := some 40) (v := ?_) (a' := ?_) #[true, true, true, true, true, true, true, true, true, true, true, true, true, true, true, true, true, true, true, true, true, true, true, true, true, true, true, true, true, true, true, true, true, true, true, false, true, true, false, false, false] rfl rfl (any_of HT_.out (by kernel_rfl)) (fun _ _ _ h => h) (Or.inl ⟨by rfl, ?_⟩) ?_ ?_
                                    rotate_left
                                    · intro w'
                                      go_simp
                                      with_reducible rfl
                                    rotate_left
                                    · simp only [Act.put, List.setIfInBounds_toArray, List.set_cons_zero, List.set_cons_succ, i64_w, i32_w]
                                      rfl
                                    refine pure_ (i := 35) (N := some 41) (v := ?_) (a' := ?_) #[true, true, true, true, true, true, true, true, true, true, true, true, true, true, true, true, true, true, true, true, true, true, true, true, true, true, true, true, true, true, true, true, true, true, true, true, true, true, false, false, false] rfl rfl (any_of HT_.out (by kernel_rfl)) (fun _ _ _ h => h) (Or.inl ⟨by rfl, ?_⟩) ?_ ?_
                                    rotate_left
                                    · intro w'
                                      go_simp
                                      with_reducible rfl
                                    rotate_left
                                    · simp only [Act.put, List.setIfInBounds_toArray, List.set_cons_zero, List.set_cons_succ, i64_w, i32_w]
                                      rfl
                                    refine one_ (i := 38) (N := some 44) #[true, true, true, true, true, true, true, true, true, true, true, true, true, true, true, true, true, true, true, true, true, true, true, true, true, true, true, true, true, true, true, true, true, true, true, true, true, true, true, false, false] rfl rfl (one_of HT_.out (by kernel_rfl)) (by decide) (fun K hK => ?_)
                                    refine goes_ Tryd.func37 (by kernel_rfl) rfl #[.int .i64 a0_7] (by rfl) rfl rfl (by (try simp only [List.map_toArray, List.map_cons, List.map_nil]); first | done | rfl | (simp only [List.length_drop, List.length_take]; rfl)) ?_
                                    with_reducible refine (spec_l6Dec.calls k a0_7 t308 _ A26.out).mono ?_
                                    rintro e w40 ⟨rfl, hb⟩
                                    have HS8_ := (hb.cell (World.block_lt_of_cell? _ _ (hHeld.2.2.2.2.2.2.2.2))).trans (hHeld.2.2.2.2.2.2.2.2)
                                    refine ⟨_, rfl, ?_⟩
                                    have n0_ := Aside0.mk (Kd.R_below (by (with_reducible repeat (first | apply Kd.R_alloc | apply Kd.R_drewN | apply Kd.R_drew)); exact HO300.out) hb)
                                    have n1_ := Aside0.mk (blk_below (g := gb296) (o := .cells #[.int .i64 a0_0, .int .i64 a0_1, .int .i64 a0_2, .int .i64 a0_3, .int .i64 a0_4, .int .i64 a0_5, .int .i64 a0_6, .int .i64 a0_7] 37 (0, 0)) (by (with_reducible repeat (first | refine blk_drewN ?_ _ | refine blk_drew ?_ | refine blk_alloc ?_ _)); exact BK296.out) hb)
                                    have n2_ := Aside0.mk (below_step (by repeat (first | (with_reducible first | exact HB.out | apply below_alloc | apply pw_below_drewN | apply below_drew1 | refine below_set ?_ GE296.out) | exact HB.out)) hb)
                                    clear HO300
                                    clear BK296
                                    clear HB
                                    have HO300 := n0_
                                    have BK296 := n1_
                                    have HB := n2_
                                    clear n0_ n1_ n2_
                                    (try clear hb)
                                    (try clear hb2)
                                    (try clear hk)
                                    (try clear hi)
                                    refine hK.out _ _ ⟨(blk_cell BK296.out 0).trans rfl, (blk_cell BK296.out 1).trans rfl, (blk_cell BK296.out 2).trans rfl, (blk_cell BK296.out 3).trans rfl, (blk_cell BK296.out 4).trans rfl, (blk_cell BK296.out 5).trans rfl, (blk_cell BK296.out 6).trans rfl, (blk_cell BK296.out 7).trans rfl, HS8_⟩ (fun hHeld => ?_)
                                    clear hK K
                                    refine norm_ (a' := ?_) ?_ ?_
                                    rotate_left
                                    · show Act.put _ (some 44) _ = _
                                      simp only [Act.put, List.setIfInBounds_toArray, List.set_cons_zero, List.set_cons_succ, i64_w, i32_w]
                                      rfl
                                    refine pure_ (i := 39) (N := some 45) (v := ?_) (a' := ?_) #[true, true, true, true, true, true, true, true, true, true, true, true, true, true, true, true, true, true, true, true, true, true, true, true, true, true, true, true, true, true, true, true, true, true, true, true, true, true, true, true, false] rfl rfl (any_of HT_.out (by kernel_rfl)) (fun _ _ _ h => h) (Or.inl ⟨by rfl, ?_⟩) ?_ ?_
                                    rotate_left
                                    · intro w'
                                      go_simp
                                      with_reducible rfl
                                    rotate_left
                                    · simp only [Act.put, List.setIfInBounds_toArray, List.set_cons_zero, List.set_cons_succ, i64_w, i32_w]
                                      rfl
                                    refine pure_ (i := 40) (N := some 2) (v := ?_) (a' := ?_) #[true, true, true, true, true, true, true, true, true, true, true, true, true, true, true, true, true, true, true, true, true, true, true, true, true, true, true, true, true, true, true, true, true, true, true, true, true, true, true, true, true] rfl rfl (any_of HT_.out (by kernel_rfl)) (fun _ _ _ h => h) (Or.inl ⟨by rfl, ?_⟩) ?_ ?_
                                    rotate_left
                                    · intro w'
                                      go_simp
                                      with_reducible rfl
                                    rotate_left
                                    · simp only [Act.put, List.setIfInBounds_toArray, List.set_cons_zero, List.set_cons_succ, i64_w, i32_w]
                                      rfl
                                    refine done_ (done_of HT_.out (by kernel_rfl)) ?_
                                    try go_wp2
                                    go_ret
                                    exact ⟨by first | rfl | (simp [errW_none, errW_some] <;> rfl) | (simp [*, errW_none, errW_some] <;> rfl), by repeat (first | (with_reducible first | exact HB.out | apply below_alloc | apply pw_below_drewN | apply below_drew1 | refine below_set ?_ GE296.out) | exact HB.out)⟩
                                  · rw [if_neg c27] at H
                                    exact absurd H (by simp)
                                · rw [if_neg c25] at H
                                  exact absurd H (by simp)
                              · rw [if_neg c24] at H
                                exact absurd H (by simp)
                            · rw [if_neg c22] at H
                              exact absurd H (by simp)
                          · rw [if_neg c21] at H
                            exact absurd H (by simp)
                        · rw [if_neg c19] at H
                          exact absurd H (by simp)
                      · rw [if_neg c18] at H
                        exact absurd H (by simp)
                    · rw [if_neg c16] at H
                      exact absurd H (by simp)
                  · rw [if_neg c15] at H
                    exact absurd H (by simp)
                · rw [if_neg c13] at H
                  exact absurd H (by simp)
              · rw [if_neg c12] at H
                exact absurd H (by simp)
            · rw [if_neg c10] at H
              exact absurd H (by simp)
          · rw [if_neg c9] at H
            exact absurd H (by simp)
        · rw [if_neg c7] at H
          exact absurd H (by simp)
      · rw [if_neg c6] at H
        exact absurd H (by simp)
    · rw [if_neg c5] at H
      exact absurd H (by simp)
  · replace c3 := Bool.eq_false_iff.mpr c3
    subst c3
    have H1 : (some (⟨#[]⟩ : ByteArray)) = some r := by rw [if_neg (show ¬ (false = true) by decide)] at H; exact H
    clear H
    have H := H1
    clear H1
    obtain rfl := Option.some.inj H
    go_enter Tryd.func20, Tryd.ntmps20
    go_wp2_with (first | ((with_reducible refine gate_dst (N := 1) rfl ?_); refine box_event ?hg (N := 1) ?hd (cs := #[.int .i64 a0_0, .int .i64 a0_1, .int .i64 a0_2, .int .i64 a0_3, .int .i64 a0_4, .int .i64 a0_5, .int .i64 a0_6, .int .i64 a0_7]) (t := 37) ?hr ?_; (case hd => rfl); (case hg => rfl); (case hr => first | (go_simp; done) | (go_simp; rfl)); intro gb296 hg w41 hbox hb; have n0_ := Aside0.mk (below_step (by repeat (first | (with_reducible first | exact HB.out | apply below_alloc | apply pw_below_drewN | apply below_drew1) | exact HB.out)) hb); have n1_ := Aside0.mk (hbox); have n2_ := Aside0.mk ((by rw [hg]; exact (below_size (by repeat (first | (with_reducible first | exact HB.out | apply below_alloc | apply pw_below_drewN | apply below_drew1) | exact HB.out))) : w.heap.size ≤ gb296)); have n3_ := Aside0.mk ((by rw [hg]; exact (below_size (by repeat (first | (with_reducible first | exact HB.out | apply below_alloc | apply pw_below_drewN | apply below_drew1) | exact HB.out))) : w.heap.size ≤ gb296)); clear HB; have HB := n0_; have BK296 := n1_; have GW296 := n2_; have GE296 := n3_; clear n0_ n1_ n2_ n3_; clear hb hbox hg; have hcz42_0 : w41.cell? ⟨gb296, 0, none⟩ = some (.int .i64 a0_0) := (blk_cell BK296.out 0).trans rfl; have hcz42_1 : w41.cell? ⟨gb296, 1, none⟩ = some (.int .i64 a0_1) := (blk_cell BK296.out 1).trans rfl; have hcz42_2 : w41.cell? ⟨gb296, 2, none⟩ = some (.int .i64 a0_2) := (blk_cell BK296.out 2).trans rfl; have hcz42_3 : w41.cell? ⟨gb296, 3, none⟩ = some (.int .i64 a0_3) := (blk_cell BK296.out 3).trans rfl; have hcz42_4 : w41.cell? ⟨gb296, 4, none⟩ = some (.int .i64 a0_4) := (blk_cell BK296.out 4).trans rfl; have hcz42_5 : w41.cell? ⟨gb296, 5, none⟩ = some (.int .i64 a0_5) := (blk_cell BK296.out 5).trans rfl; have hcz42_6 : w41.cell? ⟨gb296, 6, none⟩ = some (.int .i64 a0_6) := (blk_cell BK296.out 6).trans rfl; have hcz42_7 : w41.cell? ⟨gb296, 7, none⟩ = some (.int .i64 a0_7) := (blk_cell BK296.out 7).trans rfl; have hfz42_0 := blk_frozen BK296.out 0; have hfz42_1 := blk_frozen BK296.out 1; have hfz42_2 := blk_frozen BK296.out 2; have hfz42_3 := blk_frozen BK296.out 3; have hfz42_4 := blk_frozen BK296.out 4; have hfz42_5 := blk_frozen BK296.out 5; have hfz42_6 := blk_frozen BK296.out 6; have hfz42_7 := blk_frozen BK296.out 7) | ((with_reducible refine gate_callee (f := 43) rfl ?_); refine goesL_ (some 4) rfl rfl Tryd.func43 (by kernel_rfl) rfl #[.agg #[.int .i64 a0_0, .int .i64 a0_1, .int .i64 a0_2, .int .i64 a0_3, .int .i64 a0_4, .int .i64 a0_5, .int .i64 a0_6, .int .i64 a0_7]] rfl (by (try simp only [List.map_toArray, List.map_cons, List.map_nil]); first | done | rfl | (simp only [List.length_drop, List.length_take]; rfl)) ?_; (with_reducible refine (spec_RecOk.calls k a0_0 a0_1 a0_2 a0_3 a0_4 a0_5 a0_6 a0_7 false _ A2.out).mono ?_); rintro e w43 ⟨rfl, hb⟩; refine ⟨_, rfl, ?_⟩; have n0_ := Aside0.mk (blk_below (g := gb296) (o := .cells #[.int .i64 a0_0, .int .i64 a0_1, .int .i64 a0_2, .int .i64 a0_3, .int .i64 a0_4, .int .i64 a0_5, .int .i64 a0_6, .int .i64 a0_7] 37 (0, 0)) (by (with_reducible repeat (first | refine blk_drewN ?_ _ | refine blk_drew ?_ | refine blk_alloc ?_ _)); exact BK296.out) hb); have n1_ := Aside0.mk (below_step (by repeat (first | (with_reducible first | exact HB.out | apply below_alloc | apply pw_below_drewN | apply below_drew1 | refine below_set ?_ GE296.out) | exact HB.out)) hb); clear BK296; clear HB; have BK296 := n0_; have HB := n1_; clear n0_ n1_; (try clear hb); (try clear hb2); (try clear hk); (try clear hi)))
    go_ret
    exact ⟨by first | rfl | (simp [errW_none, errW_some] <;> rfl) | (simp [*, errW_none, errW_some] <;> rfl), by repeat (first | (with_reducible first | exact HB.out | apply below_alloc | apply pw_below_drewN | apply below_drew1 | refine below_set ?_ GE296.out) | exact HB.out)⟩


end Go.Proofs.YtajdjoggflagdaaDoor.Pr
