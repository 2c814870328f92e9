import Derived.Test.YtcefiblpnegepaaQByq
import Derived.Test.YtcefiblpnegepaaQPrK
import Derived.Test.YtcefiblpnegepaaQSh
import Derived.Test.YtcefiblpnegepaaQSq
import Derived.Test.YtcefiblpnegepaaQPrRedo
namespace Go.Proofs.Ytcefiblpnegepaa.Pr
open Go.RowKit Go.Proofs.YtcefiblpnegepaaW.PrintWords Go.Proofs.YtcefiblpnegepaaW.PrintLast Go.Proofs.YtcefiblpnegepaaW.PrintMore
attribute [local go_sem] max2_int min2_int max_two min_two max_three min_three max_four min_four
set_option linter.unusedVariables false
set_option linter.unusedSimpArgs false
abbrev mPrCpy0 : Array Bool := #[false, false, false, false, false, false, false, false, false, false, false, false, false, false, false, false]
abbrev mPrCpy1 : Array Bool := #[true, false, false, false, false, false, false, false, false, false, false, false, false, false, false, false]
abbrev mPrCpy2 : Array Bool := #[true, false, false, true, false, false, false, false, false, false, false, false, false, false, false, false]
abbrev mPrCpy3 : Array Bool := #[true, false, false, true, false, false, false, true, false, false, false, false, false, false, false, false]
abbrev mPrCpy4 : Array Bool := #[true, false, false, true, false, false, false, true, false, false, true, false, false, false, false, false]
abbrev mPrCpy5 : Array Bool := #[true, false, false, true, false, false, false, true, false, false, true, false, true, false, false, false]
abbrev mPrCpy6 : Array Bool := #[true, true, false, true, false, false, false, true, false, false, true, false, true, false, false, false]
abbrev mPrCpy7 : Array Bool := #[true, true, false, true, true, false, false, true, false, false, true, false, true, false, false, false]
abbrev mPrCpy8 : Array Bool := #[true, true, false, true, true, false, false, true, true, false, true, false, true, false, false, false]
abbrev mPrCpy9 : Array Bool := #[true, true, false, true, true, false, false, true, true, false, true, true, true, false, false, false]
abbrev mPrCpy10 : Array Bool := #[true, true, false, true, true, false, false, true, true, false, true, true, true, true, false, false]
abbrev mPrCpy11 : Array Bool := #[true, true, false, true, true, false, true, true, true, false, true, true, true, true, false, false]
abbrev mPrCpy12 : Array Bool := #[true, true, true, true, true, false, false, true, true, false, true, true, true, true, false, false]
abbrev mPrCpy13 : Array Bool := #[true, true, true, true, true, false, true, true, true, false, true, true, true, true, false, false]
abbrev mPrCpy14 : Array Bool := #[true, true, true, true, true, true, false, true, true, false, true, true, true, true, false, false]
abbrev mPrCpy15 : Array Bool := #[true, true, true, true, true, true, true, true, true, false, true, true, true, true, false, false]
abbrev mPrCpy16 : Array Bool := #[true, true, true, true, true, true, true, true, true, true, true, true, true, true, false, false]
abbrev mPrCpy17 : Array Bool := #[true, true, true, true, true, true, true, true, true, true, true, true, true, true, true, false]
abbrev mPrCpy18 : Array Bool := #[true, true, true, true, true, true, true, true, true, true, true, true, true, true, true, true]
def spec_l11Copy.f (k : Nat) (l0_0 : List (S25)) (l0_1 : List (S25)) (l0_2 : List (S41)) (a0_3 : Int) (a0_4 : Bool) : Option ((List (S25)) × (List (S25)) × (List (S41)) × Int × Bool) := (spec_l11CopyPages.f k l0_0).bind fun t1378 => ((spec_l11CopyPages.f k l0_1).bind fun t1381 => ((some (([] : List (S41)) : List (S41))).bind fun y1384 => (if y1384.length + l0_2.length < 2199023255552 then (some (t1378, t1381, (y1384 ++ l0_2), a0_3, a0_4)) else (none))))
def spec_l11Copy.T1 : Bool × List (List Nat × List Nat) := (true, [([], []), ([0], [0]), ([1], [1]), ([], []), ([3], [3]), ([4, 2], [4]), ([], []), ([], []), ([7], [7]), ([6, 8, 5], [6, 8]), ([], []), ([10], [10]), ([], []), ([12], [12]), ([2, 5, 9, 11, 13], [2, 5, 9, 11, 13]), ([14, 9, 0, 1, 2, 3, 4, 5, 6, 7, 8, 9, 10, 11, 12, 13, 14], [14])])
def spec_l11Copy.B1 : List Nat := [0, 1, 3, 0, 8, 31, 0, 0, 128, 511, 0, 1024, 0, 4096, 16383, 32767]
theorem spec_l11Copy.tab1 : rtab .any (opsOf Try.f128 1) = spec_l11Copy.T1 := by kernel_rfl
theorem spec_l11Copy.bits1 : waitsOk spec_l11Copy.T1.2 spec_l11Copy.B1 = true := by kernel_rfl
set_option maxHeartbeats 8000000 in
set_option maxRecDepth 100000 in
theorem spec_l11Copy.calls (k : Nat) (A0_0 : Option Addr) (c0_0 : Nat) (l0_0 : List (S25)) (A0_1 : Option Addr) (c0_1 : Nat) (l0_1 : List (S25)) (A0_2 : Option Addr) (c0_2 : Nat) (l0_2 : List (S41)) (a0_3 : Int) (a0_4 : Bool) (r1 : List (S25)) (r2 : List (S25)) (r3 : List (S41)) (r4 : Int) (r5 : Bool) (w : World) (hr0_0 : Kd.C k25 w A0_0 l0_0.length l0_0) (hc0_0 : l0_0.length ≤ c0_0) (hr0_1 : Kd.C k25 w A0_1 l0_1.length l0_1) (hc0_1 : l0_1.length ≤ c0_1) (hr0_2 : Kd.C k41 w A0_2 l0_2.length l0_2) (hc0_2 : l0_2.length ≤ c0_2) (h : spec_l11Copy.f k l0_0 l0_1 l0_2 a0_3 a0_4 = some (r1, r2, r3, r4, r5)) :
  Calls Try.prog 128 #[.agg #[.slice A0_0 l0_0.length c0_0, .slice A0_1 l0_1.length c0_1, .slice A0_2 l0_2.length c0_2, .int .i64 a0_3, .bool a0_4]] w fun e w' => ∃ v0_ v1_ v2_ : Value, e = .returned (.agg #[v0_, v1_, v2_, .int .i64 r4, .bool r5]) ∧ Kd.S k25 25 w' w.heap.size (fun k_ => some k_ ≠ (v1_ : Value).ownBlock) v0_ r1 ∧ Kd.S k25 25 w' w.heap.size (fun k_ => some k_ ≠ (v0_ : Value).ownBlock) v1_ r2 ∧ Kd.R k41 41 w' w.heap.size (fun _ => True) v2_ r3 ∧ Below w.heap.size w w' := by
 have hu52 := Try.underlying52; have HR0_0 := az hr0_0; have HC0_0 := az hc0_0; clear hr0_0 hc0_0; have HR0_1 := az hr0_1; have HC0_1 := az hc0_1; clear hr0_1 hc0_1; have HR0_2 := az hr0_2; have HC0_2 := az hc0_2; clear hr0_2 hc0_2; have HB := az (Below.refl w.heap.size w); have H : ((spec_l11CopyPages.f k l0_0).bind fun t1378 => ((spec_l11CopyPages.f k l0_1).bind fun t1381 => ((some (([] : List (S41)) : List (S41))).bind fun y1384 => (if y1384.length + l0_2.length < 2199023255552 then (some (t1378, t1381, (y1384 ++ l0_2), a0_3, a0_4)) else (none))))) = some (r1, r2, r3, r4, r5) := h; clear h; replace H := Option.bind_eq_some_iff.mp H; obtain ⟨t1378, A20, H⟩ := H; replace H : ((spec_l11CopyPages.f k l0_1).bind fun t1381 => ((some (([] : List (S41)) : List (S41))).bind fun y1384 => (if y1384.length + l0_2.length < 2199023255552 then (some (t1378, t1381, (y1384 ++ l0_2), a0_3, a0_4)) else (none)))) = some (r1, r2, r3, r4, r5) := H; have A2 := az A20; clear A20; replace H := Option.bind_eq_some_iff.mp H; obtain ⟨t1381, A30, H⟩ := H; replace H : ((some (([] : List (S41)) : List (S41))).bind fun y1384 => (if y1384.length + l0_2.length < 2199023255552 then (some (t1378, t1381, (y1384 ++ l0_2), a0_3, a0_4)) else (none))) = some (r1, r2, r3, r4, r5) := H; have A3 := az A30; clear A30
 obtain ⟨y1384, hy1384⟩ : ∃ y_ : List (S41), y_ = (([] : List (S41))) := ⟨_, rfl⟩
 replace H : (if y1384.length + l0_2.length < 2199023255552 then (some (t1378, t1381, (y1384 ++ l0_2), a0_3, a0_4)) else (none)) = some (r1, r2, r3, r4, r5) := by first | (rw [hy1384]; with_reducible exact H) | (have H2_ := (Option.bind_some _ _).symm.trans H; rw [hy1384]; with_reducible exact H2_) | (have H2_ := (Option.bind_some _ _).symm.trans H; with_reducible exact H2_) | with_reducible exact H | (rw [hy1384]; exact H) | exact H
 have Ny1384 := az hy1384; clear hy1384
 by_cases c4 : y1384.length + l0_2.length < 2199023255552
 ·rw [if_pos c4] at H
  have LMc4 := az c4; clear c4
  obtain ⟨y1387, hy1387⟩ : ∃ y_ : List (S41), y_ = (y1384 ++ l0_2) := ⟨_, rfl⟩
  replace H : (some (t1378, t1381, y1387, a0_3, a0_4)) = some (r1, r2, r3, r4, r5) := by first | (rw [hy1387]; with_reducible exact H) | (have H2_ := (Option.bind_some _ _).symm.trans H; rw [hy1387]; with_reducible exact H2_) | (have H2_ := (Option.bind_some _ _).symm.trans H; with_reducible exact H2_) | with_reducible exact H | (rw [hy1387]; exact H) | exact H
  have Ny1387 := az hy1387; clear hy1387; simp only [Option.some.injEq, Prod.mk.injEq] at H; obtain ⟨rfl, rfl, rfl, rfl, rfl⟩ := H
  go_enter Try.func128, Try.ntmps128
  try go_wp2_with (first | ((with_reducible refine gate_dst (N := 1) rfl ?_); refine box_event ?hg (N := 1) ?hd (cs := #[.slice A0_0 l0_0.length c0_0, .slice A0_1 l0_1.length c0_1, .slice A0_2 l0_2.length c0_2, .int .i64 a0_3, .bool a0_4]) (t := 52) ?hr ?_; (case hd => rfl); (case hg => rfl); (case hr => exact zb20); intro gb1376 hg w5 hbox hb; have BK1376 := az (hbox); have GW1376 := az ((zb106 : w.heap.size ≤ gb1376)); have GE1376 := GW1376; replace HB := az (below_step zb7 hb); clear hb hbox hg) | ((with_reducible refine gate_dst (N := 2) rfl ?_); refine box_event ?hg (N := 2) ?hd (cs := #[.slice none 0 0, .slice none 0 0, .slice none 0 0, .int .i64 0, .bool false]) (t := 52) ?hr ?_; (case hd => rfl); (case hg => rfl); (case hr => exact zb20); intro gb1377 hg w6 hbox hb; have BK1377 := az (hbox); have GW1377 := az ((by rw [hg]; exact (below_size zb4) : w.heap.size ≤ gb1377)); have GE1377 := GW1377; replace HB := az (below_step zb4 hb); obtain ⟨NB1376_1377, NB1377_1376⟩ := nb BK1376 hg (fun h => by (with_reducible repeat (first | apply bn | apply bd | apply ba)); exact h); replace BK1376 := bb BK1376 (fun h => by (with_reducible repeat (first | apply bn | apply bd | apply ba)); exact h) hb; clear hb hbox hg))
  replace BK1376 := az (blk_drew BK1376.out); replace BK1377 := az (blk_drew BK1377.out); replace HB := az (wd HB.out); refine start_ (n := 16) (S := fun w' => w'.cell? ⟨gb1376, 0, none⟩ = some (.slice A0_0 l0_0.length c0_0) ∧ w'.cell? ⟨gb1376, 1, none⟩ = some (.slice A0_1 l0_1.length c0_1) ∧ w'.cell? ⟨gb1376, 2, none⟩ = some (.slice A0_2 l0_2.length c0_2) ∧ w'.cell? ⟨gb1376, 3, none⟩ = some (.int .i64 a0_3) ∧ w'.cell? ⟨gb1376, 4, none⟩ = some (.bool a0_4)) (ds := []) mPrCpy0 zb14 rfl rfl ⟨bt BK1376 rfl, bt BK1376 rfl, bt BK1376 rfl, bt BK1376 rfl, bt BK1376 rfl⟩ (fun hHeld => ?_); refine with_tabW spec_l11Copy.tab1 spec_l11Copy.bits1 (fun HT_ HW_ => ?_); generalize w6.drew = w7 at BK1376 BK1377 HB hHeld ⊢; refine pu 0 3 mPrCpy1 HT_ ?_; refine pu 3 6 mPrCpy2 HT_ ?_; refine pu 7 10 mPrCpy3 HT_ ?_; refine pu 10 13 mPrCpy4 HT_ ?_; refine pu 12 15 mPrCpy5 HT_ ?_; refine tk 1 4 mPrCpy6 HT_ HW_ hHeld ?_; refine tk 4 7 mPrCpy7 HT_ HW_ hHeld ?_; refine tk 8 11 mPrCpy8 HT_ HW_ hHeld ?_; refine tk 11 14 mPrCpy9 HT_ HW_ hHeld ?_; refine tk 13 16 mPrCpy10 HT_ HW_ hHeld ?_; refine join_ (σ := Value × Value × Value) 3 mPrCpy15 (fun s_ => [(5, s_.1), (8, s_.2.1), (9, s_.2.2)]) (fun s_ w' => (w'.cell? ⟨gb1376, 0, none⟩ = some (.slice A0_0 l0_0.length c0_0) ∧ w'.cell? ⟨gb1376, 1, none⟩ = some (.slice A0_1 l0_1.length c0_1) ∧ w'.cell? ⟨gb1376, 2, none⟩ = some (.slice A0_2 l0_2.length c0_2) ∧ w'.cell? ⟨gb1376, 3, none⟩ = some (.int .i64 a0_3) ∧ w'.cell? ⟨gb1376, 4, none⟩ = some (.bool a0_4)) ∧ (Kd.S k25 25 w' w.heap.size (fun k_ => some k_ ≠ (s_.2.1 : Value).ownBlock) s_.1 t1378) ∧ (Kd.S k25 25 w' w.heap.size (fun k_ => some k_ ≠ (s_.1 : Value).ownBlock) s_.2.1 t1381) ∧ (Kd.R k41 41 w' w.heap.size (fun _ => True) s_.2.2 y1384) ∧ (w'.heap[gb1376]? = some (.cells #[.slice A0_0 l0_0.length c0_0, .slice A0_1 l0_1.length c0_1, .slice A0_2 l0_2.length c0_2, .int .i64 a0_3, .bool a0_4] 52 (0, 0))) ∧ (w'.heap[gb1377]? = some (.cells #[.slice none 0 0, .slice none 0 0, .slice none 0 0, .int .i64 0, .bool false] 52 (0, 0))) ∧ (Below w.heap.size w w')) ?_ ?_
  rotate_left
  ·intro hCont
   refine two_ (i := 2) (j := 6) (Ni := some 5) (Nj := some 9) mPrCpy12 mPrCpy11 rfl rfl rfl rfl (two_of HT_.out zb14) (by decide) (by decide) (fun K hK => ?_) (fun K hK => ?_)
   ·skip
    refine goes_ Try.func140 zb14 rfl #[.slice A0_0 l0_0.length c0_0] (by rfl) rfl rfl zb3 ?_
    with_reducible refine (spec_l11CopyPages.calls k _ _ l0_0 t1378 _ ?side1 ?side2 A2.out).mono ?_
    (case side1 => exact zb93)
    (case side2 => exact HC0_0.out)
    rintro e w8 ⟨v1379, rfl, ho0, hb⟩; refine ⟨_, rfl, ?_⟩; have HO1380 := az (Kd.S_lower ho0 (below_size zb4)); replace BK1376 := bb BK1376 (fun h => by (with_reducible repeat (first | apply bn | apply bd | apply ba)); exact h) hb; replace BK1377 := bb BK1377 (fun h => by (with_reducible repeat (first | apply bn | apply bd | apply ba)); exact h) hb; replace HB := az (below_step zb4 hb)
    (try clear hb);(try clear hb2);(try clear hk);(try clear hi);(try clear ho0)
    refine hK.out _ _ ⟨bt BK1376 rfl, bt BK1376 rfl, bt BK1376 rfl, bt BK1376 rfl, bt BK1376 rfl⟩ (fun hHeld => ?_); clear hK K; refine norm_ (a' := ?_) ?_ ?_; rotate_left
    ·show Act.put _ (some 5) _ = _
     simp only [Act.put, List.setIfInBounds_toArray, List.set_cons_zero, List.set_cons_succ, i64_w, i32_w]
     rfl
    refine two_ (i := 5) (j := 6) (Ni := some 8) (Nj := some 9) mPrCpy14 mPrCpy13 rfl rfl rfl rfl (two_of HT_.out zb14) (by decide) (by decide) (fun K hK => ?_) (fun K hK => ?_)
    ·skip
     refine goes_ Try.func140 zb14 rfl #[.slice A0_1 l0_1.length c0_1] (by rfl) rfl rfl zb3 ?_
     with_reducible refine (spec_l11CopyPages.calls k _ _ l0_1 t1381 _ ?side1 ?side2 A3.out).mono ?_
     (case side1 => exact zb67)
     (case side2 => exact HC0_1.out)
     rintro e w9 ⟨v1382, rfl, ho0, hb⟩; refine ⟨_, rfl, ?_⟩; have HO1383 := az (Kd.S_lower (Kd.S_new' ho0 (Kd.S_lt zb32)) (below_size zb4)); replace HO1380 := az (Kd.S_elder' zb32 (Kd.S_base ho0) hb); replace BK1376 := bb BK1376 (fun h => by (with_reducible repeat (first | apply bn | apply bd | apply ba)); exact h) hb; replace BK1377 := bb BK1377 (fun h => by (with_reducible repeat (first | apply bn | apply bd | apply ba)); exact h) hb; replace HB := az (below_step zb4 hb)
     (try clear hb);(try clear hb2);(try clear hk);(try clear hi);(try clear ho0)
     refine hK.out _ _ ⟨bt BK1376 rfl, bt BK1376 rfl, bt BK1376 rfl, bt BK1376 rfl, bt BK1376 rfl⟩ (fun hHeld => ?_); clear hK K; refine norm_ (a' := ?_) ?_ ?_; rotate_left
     ·show Act.put _ (some 8) _ = _
      simp only [Act.put, List.setIfInBounds_toArray, List.set_cons_zero, List.set_cons_succ, i64_w, i32_w]
      rfl
     refine one_ (i := 6) (N := some 9) mPrCpy15 rfl rfl (one_of HT_.out zb14) (by decide) (fun K hK => ?_)
     refine Kd.R_lit_step k41 _ 41 ?hg (N := 9) ?hd (xs := ([] : List (S41))) (inner := []) (ok := fun _ => True) (okp := fun _ => True) ?hr ?hp (fun _ hk => hk) trivial (Below.refl _ _) (Nat.le_refl _) (by simp) ?_; (case hd => rfl); (case hg => rfl); (case hr => exact zb20); (case hp => exact (Reps.none _ _))
     intro v1385 w10 ho11 hb hg_ hnew_; clear hg_ hnew_
     (first | rw [← Ny1384.out] at ho11 | (simp only [Int.reduceToNat] at ho11; rw [← Ny1384.out] at ho11))
     replace HO1380 := az (Kd.S_below zb32 hb); replace HO1383 := az (Kd.S_below (by (with_reducible repeat (first | apply Kd.S_alloc | apply Kd.S_drewN | apply Kd.S_drew)); exact HO1383.out) hb); have HO1386 := az (Kd.R_lower ho11 (below_size zb4)); replace BK1376 := bb BK1376 (fun h => by (with_reducible repeat (first | apply bn | apply bd | apply ba)); exact h) hb; replace BK1377 := bb BK1377 (fun h => by (with_reducible repeat (first | apply bn | apply bd | apply ba)); exact h) hb; replace HB := az (below_step zb4 hb); clear hb ho11; refine hK.out _ _ ⟨bt BK1376 rfl, bt BK1376 rfl, bt BK1376 rfl, bt BK1376 rfl, bt BK1376 rfl⟩ (fun hHeld => ?_); clear hK K; refine norm_ (a' := ?_) ?_ ?_; rotate_left
     ·show Act.put _ (some 9) _ = _
      simp only [Act.put, List.setIfInBounds_toArray, List.set_cons_zero, List.set_cons_succ, i64_w, i32_w]
      rfl
     exact norm_ zb51 (hCont (v1379, v1382, v1385) _ ⟨hHeld, zb74, zb73, zb33, zb79, zb78, zb4⟩)
    ·skip
     refine Kd.R_lit_step k41 _ 41 ?hg (N := 9) ?hd (xs := ([] : List (S41))) (inner := []) (ok := fun _ => True) (okp := fun _ => True) ?hr ?hp (fun _ hk => hk) trivial (Below.refl _ _) (Nat.le_refl _) (by simp) ?_; (case hd => rfl); (case hg => rfl); (case hr => exact zb20); (case hp => exact (Reps.none _ _))
     intro v1385 w9 ho10 hb hg_ hnew_; clear hg_ hnew_
     (first | rw [← Ny1384.out] at ho10 | (simp only [Int.reduceToNat] at ho10; rw [← Ny1384.out] at ho10))
     replace HO1380 := az (Kd.S_below zb32 hb); have HO1386 := az (Kd.R_lower ho10 (below_size zb4)); replace BK1376 := bb BK1376 (fun h => by (with_reducible repeat (first | apply bn | apply bd | apply ba)); exact h) hb; replace BK1377 := bb BK1377 (fun h => by (with_reducible repeat (first | apply bn | apply bd | apply ba)); exact h) hb; replace HB := az (below_step zb4 hb); clear hb ho10; refine hK.out _ _ ⟨bt BK1376 rfl, bt BK1376 rfl, bt BK1376 rfl, bt BK1376 rfl, bt BK1376 rfl⟩ (fun hHeld => ?_); clear hK K; refine norm_ (a' := ?_) ?_ ?_; rotate_left
     ·show Act.put _ (some 9) _ = _
      simp only [Act.put, List.setIfInBounds_toArray, List.set_cons_zero, List.set_cons_succ, i64_w, i32_w]
      rfl
     refine one_ (i := 5) (N := some 8) mPrCpy15 rfl rfl (one_of HT_.out zb14) (by decide) (fun K hK => ?_); refine goes_ Try.func140 zb14 rfl #[.slice A0_1 l0_1.length c0_1] (by rfl) rfl rfl zb3 ?_
     with_reducible refine (spec_l11CopyPages.calls k _ _ l0_1 t1381 _ ?side1 ?side2 A3.out).mono ?_
     (case side1 => exact zb67)
     (case side2 => exact HC0_1.out)
     rintro e w11 ⟨v1382, rfl, ho0, hb⟩; refine ⟨_, rfl, ?_⟩; replace HO1386 := az (Kd.R_below zb33 hb); have HO1383 := az (Kd.S_lower (Kd.S_new' ho0 (Kd.S_lt zb32)) (below_size zb4)); replace HO1380 := az (Kd.S_elder' zb32 (Kd.S_base ho0) hb); replace BK1376 := bb BK1376 (fun h => by (with_reducible repeat (first | apply bn | apply bd | apply ba)); exact h) hb; replace BK1377 := bb BK1377 (fun h => by (with_reducible repeat (first | apply bn | apply bd | apply ba)); exact h) hb; replace HB := az (below_step zb4 hb)
     (try clear hb);(try clear hb2);(try clear hk);(try clear hi);(try clear ho0)
     refine hK.out _ _ ⟨bt BK1376 rfl, bt BK1376 rfl, bt BK1376 rfl, bt BK1376 rfl, bt BK1376 rfl⟩ (fun hHeld => ?_); clear hK K; refine norm_ (a' := ?_) ?_ ?_; rotate_left
     ·show Act.put _ (some 8) _ = _
      simp only [Act.put, List.setIfInBounds_toArray, List.set_cons_zero, List.set_cons_succ, i64_w, i32_w]
      rfl
     exact norm_ zb51 (hCont (v1379, v1382, v1385) _ ⟨hHeld, zb74, zb73, zb33, zb79, zb78, zb4⟩)
   ·skip
    refine Kd.R_lit_step k41 _ 41 ?hg (N := 9) ?hd (xs := ([] : List (S41))) (inner := []) (ok := fun _ => True) (okp := fun _ => True) ?hr ?hp (fun _ hk => hk) trivial (Below.refl _ _) (Nat.le_refl _) (by simp) ?_; (case hd => rfl); (case hg => rfl); (case hr => exact zb20); (case hp => exact (Reps.none _ _))
    intro v1385 w8 ho9 hb hg_ hnew_; clear hg_ hnew_
    (first | rw [← Ny1384.out] at ho9 | (simp only [Int.reduceToNat] at ho9; rw [← Ny1384.out] at ho9))
    have HO1386 := az (Kd.R_lower ho9 (below_size zb4)); replace BK1376 := bb BK1376 (fun h => by (with_reducible repeat (first | apply bn | apply bd | apply ba)); exact h) hb; replace BK1377 := bb BK1377 (fun h => by (with_reducible repeat (first | apply bn | apply bd | apply ba)); exact h) hb; replace HB := az (below_step zb4 hb); clear hb ho9; refine hK.out _ _ ⟨bt BK1376 rfl, bt BK1376 rfl, bt BK1376 rfl, bt BK1376 rfl, bt BK1376 rfl⟩ (fun hHeld => ?_); clear hK K; refine norm_ (a' := ?_) ?_ ?_; rotate_left
    ·show Act.put _ (some 9) _ = _
     simp only [Act.put, List.setIfInBounds_toArray, List.set_cons_zero, List.set_cons_succ, i64_w, i32_w]
     rfl
    refine one_ (i := 2) (N := some 5) mPrCpy13 rfl rfl (one_of HT_.out zb14) (by decide) (fun K hK => ?_); refine goes_ Try.func140 zb14 rfl #[.slice A0_0 l0_0.length c0_0] (by rfl) rfl rfl zb3 ?_
    with_reducible refine (spec_l11CopyPages.calls k _ _ l0_0 t1378 _ ?side1 ?side2 A2.out).mono ?_
    (case side1 => exact zb93)
    (case side2 => exact HC0_0.out)
    rintro e w10 ⟨v1379, rfl, ho0, hb⟩; refine ⟨_, rfl, ?_⟩; replace HO1386 := az (Kd.R_below zb33 hb); have HO1380 := az (Kd.S_lower ho0 (below_size zb4)); replace BK1376 := bb BK1376 (fun h => by (with_reducible repeat (first | apply bn | apply bd | apply ba)); exact h) hb; replace BK1377 := bb BK1377 (fun h => by (with_reducible repeat (first | apply bn | apply bd | apply ba)); exact h) hb; replace HB := az (below_step zb4 hb)
    (try clear hb);(try clear hb2);(try clear hk);(try clear hi);(try clear ho0)
    refine hK.out _ _ ⟨bt BK1376 rfl, bt BK1376 rfl, bt BK1376 rfl, bt BK1376 rfl, bt BK1376 rfl⟩ (fun hHeld => ?_); clear hK K; refine norm_ (a' := ?_) ?_ ?_; rotate_left
    ·show Act.put _ (some 5) _ = _
     simp only [Act.put, List.setIfInBounds_toArray, List.set_cons_zero, List.set_cons_succ, i64_w, i32_w]
     rfl
    refine one_ (i := 5) (N := some 8) mPrCpy15 rfl rfl (one_of HT_.out zb14) (by decide) (fun K hK => ?_); refine goes_ Try.func140 zb14 rfl #[.slice A0_1 l0_1.length c0_1] (by rfl) rfl rfl zb3 ?_
    with_reducible refine (spec_l11CopyPages.calls k _ _ l0_1 t1381 _ ?side1 ?side2 A3.out).mono ?_
    (case side1 => exact zb67)
    (case side2 => exact HC0_1.out)
    rintro e w11 ⟨v1382, rfl, ho0, hb⟩; refine ⟨_, rfl, ?_⟩; replace HO1386 := az (Kd.R_below zb33 hb); have HO1383 := az (Kd.S_lower (Kd.S_new' ho0 (Kd.S_lt zb32)) (below_size zb4)); replace HO1380 := az (Kd.S_elder' zb32 (Kd.S_base ho0) hb); replace BK1376 := bb BK1376 (fun h => by (with_reducible repeat (first | apply bn | apply bd | apply ba)); exact h) hb; replace BK1377 := bb BK1377 (fun h => by (with_reducible repeat (first | apply bn | apply bd | apply ba)); exact h) hb; replace HB := az (below_step zb4 hb)
    (try clear hb);(try clear hb2);(try clear hk);(try clear hi);(try clear ho0)
    refine hK.out _ _ ⟨bt BK1376 rfl, bt BK1376 rfl, bt BK1376 rfl, bt BK1376 rfl, bt BK1376 rfl⟩ (fun hHeld => ?_); clear hK K; refine norm_ (a' := ?_) ?_ ?_; rotate_left
    ·show Act.put _ (some 8) _ = _
     simp only [Act.put, List.setIfInBounds_toArray, List.set_cons_zero, List.set_cons_succ, i64_w, i32_w]
     rfl
    exact norm_ zb51 (hCont (v1379, v1382, v1385) _ ⟨hHeld, zb74, zb73, zb33, zb79, zb78, zb4⟩)
  rintro ⟨v1379, v1382, v1385⟩ w12 ⟨hS_, h0_, h1_, h2_, h3_, h4_, h5_⟩
  have HO1380 : Aside0 (Kd.S k25 25 w12 w.heap.size (fun k_ => some k_ ≠ (v1382 : Value).ownBlock) v1379 t1378) := ⟨h0_⟩
  have HO1383 : Aside0 (Kd.S k25 25 w12 w.heap.size (fun k_ => some k_ ≠ (v1379 : Value).ownBlock) v1382 t1381) := ⟨h1_⟩
  have HO1386 : Aside0 (Kd.R k41 41 w12 w.heap.size (fun _ => True) v1385 y1384) := ⟨h2_⟩
  replace BK1376 : Aside0 (w12.heap[gb1376]? = some (.cells #[.slice A0_0 l0_0.length c0_0, .slice A0_1 l0_1.length c0_1, .slice A0_2 l0_2.length c0_2, .int .i64 a0_3, .bool a0_4] 52 (0, 0))) := ⟨h3_⟩
  replace BK1377 : Aside0 (w12.heap[gb1377]? = some (.cells #[.slice none 0 0, .slice none 0 0, .slice none 0 0, .int .i64 0, .bool false] 52 (0, 0))) := ⟨h4_⟩
  replace HB : Aside0 (Below w.heap.size w w12) := ⟨h5_⟩
  clear h0_ h1_ h2_ h3_ h4_ h5_; have hHeld : w12.cell? ⟨gb1376, 0, none⟩ = some (.slice A0_0 l0_0.length c0_0) ∧ w12.cell? ⟨gb1376, 1, none⟩ = some (.slice A0_1 l0_1.length c0_1) ∧ w12.cell? ⟨gb1376, 2, none⟩ = some (.slice A0_2 l0_2.length c0_2) ∧ w12.cell? ⟨gb1376, 3, none⟩ = some (.int .i64 a0_3) ∧ w12.cell? ⟨gb1376, 4, none⟩ = some (.bool a0_4) := hS_; refine norm_ (a' := ?_) ?_ ?_; rotate_left
  ·simp only [putAll, Act.put, List.setIfInBounds_toArray, List.set_cons_zero, List.set_cons_succ]
   rfl
  refine one_ (i := 9) (N := some 12) mPrCpy16 rfl rfl (one_of HT_.out zb14) (by decide) (fun K hK => ?_); refine Kd.R_append_rows_step k41 (w0 := w) w.heap.size (by rfl) (.tmp 9) (.tmp 11) 34 41 (.agg #[(.int .i64 0), (.int .i64 0), (.int .i64 0), (.int .i64 0), (.int .i64 0), (.int .i64 0), (.int .i64 0), (.int .i64 0)]) 64 rfl Try.underlying34 info41 rfl (by decide) (by omega) v1385 y1384 l0_2 _ _ _ (fun _ => True) (fun _ => False) rfl rfl ?aO ?aR (fun _ _ h => h) (fun _ h => h.elim) ?aF ?aB ?aS ?aL ?_
  (case aR => exact zb48)
  (case aB => exact zb4)
  (case aF => exact (fun _ _ => trivial))
  (case aO => exact zb33)
  (case aS => exact (below_size zb4))
  (case aL => have := LMc4.out; omega)
  intro v1388 w13 ho hb hg hat; rw [← Ny1387.out] at ho; replace BK1376 := az (blk_grown (g := gb1376) (o := .cells #[.slice A0_0 l0_0.length c0_0, .slice A0_1 l0_1.length c0_1, .slice A0_2 l0_2.length c0_2, .int .i64 a0_3, .bool a0_4] 52 (0, 0)) zb79 hg (Kd.R_ne HO1386.out BK1376.out (by decide))); replace BK1377 := az (blk_grown (g := gb1377) (o := .cells #[.slice none 0 0, .slice none 0 0, .slice none 0 0, .int .i64 0, .bool false] 52 (0, 0)) zb78 hg (Kd.R_ne HO1386.out BK1377.out (by decide))); replace HO1380 := az (Kd.S_over' zb32 (Kd.R_typed zb33) (by decide) hg); replace HO1383 := az (Kd.S_over' (by (with_reducible repeat (first | apply Kd.S_alloc | apply Kd.S_drewN | apply Kd.S_drew)); exact HO1383.out) (Kd.R_typed zb33) (by decide) hg); replace HB := az (hb); have HO1389 := az (ho); clear HO1386 ho hb hg hat; obtain ⟨Ao14, co14, eo14⟩ := Kd.R_slice HO1389.out
  (first | subst eo14 | (injection eo14 with f1_ f2_ f3_; have f4_ := f1_.symm; have f5_ := f3_.symm; clear f1_ f2_ f3_; subst f4_; subst f5_))
  obtain ⟨Ao15, co15, eo15⟩ := Kd.S_slice HO1383.out
  (first | subst eo15 | (injection eo15 with f1_ f2_ f3_; have f4_ := f1_.symm; have f5_ := f3_.symm; clear f1_ f2_ f3_; subst f4_; subst f5_))
  obtain ⟨Ao16, co16, eo16⟩ := Kd.S_slice HO1380.out
  (first | subst eo16 | (injection eo16 with f1_ f2_ f3_; have f4_ := f1_.symm; have f5_ := f3_.symm; clear f1_ f2_ f3_; subst f4_; subst f5_))
  refine hK.out _ _ ⟨bt BK1376 rfl, bt BK1376 rfl, bt BK1376 rfl, bt BK1376 rfl, bt BK1376 rfl⟩ (fun hHeld => ?_); clear hK K; refine norm_ (a' := ?_) ?_ ?_; rotate_left
  ·show Act.put _ (some 12) _ = _
   simp only [Act.put, List.setIfInBounds_toArray, List.set_cons_zero, List.set_cons_succ, i64_w, i32_w]
   rfl
  refine pu 14 17 mPrCpy17 HT_ ?_; refine one_ (i := 15) (N := none) mPrCpy18 rfl rfl (one_of HT_.out zb14) (by decide) (fun K hK => ?_); have hs17 : w13.cell? ⟨gb1377, 0, none⟩ = some (.slice none 0 0) := bt BK1377 rfl; have hfs17 := blk_frozen BK1377.out 0; have hns17_0 := NB1376_1377.out; have hms17_0 := NB1377_1376.out; have hs18 : w13.cell? ⟨gb1377, 1, none⟩ = some (.slice none 0 0) := bt BK1377 rfl; have hfs18 := blk_frozen BK1377.out 1; have hns18_0 := NB1376_1377.out; have hms18_0 := NB1377_1376.out; have hs19 : w13.cell? ⟨gb1377, 2, none⟩ = some (.slice none 0 0) := bt BK1377 rfl; have hfs19 := blk_frozen BK1377.out 2; have hns19_0 := NB1376_1377.out; have hms19_0 := NB1377_1376.out; have hs20 : w13.cell? ⟨gb1377, 3, none⟩ = some (.int .i64 0) := bt BK1377 rfl; have hfs20 := blk_frozen BK1377.out 3; have hns20_0 := NB1376_1377.out; have hms20_0 := NB1377_1376.out; have hs21 : w13.cell? ⟨gb1377, 4, none⟩ = some (.bool false) := bt BK1377 rfl; have hfs21 := blk_frozen BK1377.out 4; have hns21_0 := NB1376_1377.out; have hms21_0 := NB1377_1376.out; refine skip_ (w1 := ?_) (by rfl) rfl ?_ ?_; rotate_left
  ·go_simp
   rfl
  refine hK.out _ _ ⟨((cell_far (p := ⟨gb1377, _, none⟩) NB1376_1377.out _).trans (((cell_far (p := ⟨gb1377, _, none⟩) NB1376_1377.out _).trans (((cell_far (p := ⟨gb1377, _, none⟩) NB1376_1377.out _).trans (((cell_far (p := ⟨gb1377, _, none⟩) NB1376_1377.out _).trans (((cell_far (p := ⟨gb1377, _, none⟩) NB1376_1377.out _).trans (hHeld.1)))))))))), ((cell_far (p := ⟨gb1377, _, none⟩) NB1376_1377.out _).trans (((cell_far (p := ⟨gb1377, _, none⟩) NB1376_1377.out _).trans (((cell_far (p := ⟨gb1377, _, none⟩) NB1376_1377.out _).trans (((cell_far (p := ⟨gb1377, _, none⟩) NB1376_1377.out _).trans (((cell_far (p := ⟨gb1377, _, none⟩) NB1376_1377.out _).trans (hHeld.2.1)))))))))), ((cell_far (p := ⟨gb1377, _, none⟩) NB1376_1377.out _).trans (((cell_far (p := ⟨gb1377, _, none⟩) NB1376_1377.out _).trans (((cell_far (p := ⟨gb1377, _, none⟩) NB1376_1377.out _).trans (((cell_far (p := ⟨gb1377, _, none⟩) NB1376_1377.out _).trans (((cell_far (p := ⟨gb1377, _, none⟩) NB1376_1377.out _).trans (hHeld.2.2.1)))))))))), ((cell_far (p := ⟨gb1377, _, none⟩) NB1376_1377.out _).trans (((cell_far (p := ⟨gb1377, _, none⟩) NB1376_1377.out _).trans (((cell_far (p := ⟨gb1377, _, none⟩) NB1376_1377.out _).trans (((cell_far (p := ⟨gb1377, _, none⟩) NB1376_1377.out _).trans (((cell_far (p := ⟨gb1377, _, none⟩) NB1376_1377.out _).trans (hHeld.2.2.2.1)))))))))), ((cell_far (p := ⟨gb1377, _, none⟩) NB1376_1377.out _).trans (((cell_far (p := ⟨gb1377, _, none⟩) NB1376_1377.out _).trans (((cell_far (p := ⟨gb1377, _, none⟩) NB1376_1377.out _).trans (((cell_far (p := ⟨gb1377, _, none⟩) NB1376_1377.out _).trans (((cell_far (p := ⟨gb1377, _, none⟩) NB1376_1377.out _).trans (hHeld.2.2.2.2))))))))))⟩ (fun hHeld => ?_)
  clear hK K; refine done_ (done_of HT_.out zb14) ?_
  try go_wp2
  refine bodyPost_ret (results_cell_row rfl _ _ gb1377 52 #[.slice Ao16 t1378.length co16, .slice Ao15 t1381.length co15, .slice Ao14 y1387.length co14, .int .i64 a0_3, .bool a0_4] (0, 0) _ rfl (by (with_reducible repeat (first | apply bn | apply bd | apply ba)); exact p5 BK1377) Try.underlying52 rfl zb14) rfl ?_; exact ⟨_, _, _, zb11, by (with_reducible repeat (first | apply Kd.S_alloc | apply Kd.S_drewN | apply Kd.S_drew)); exact Kd.S_mono (Kd.S_far (p := ⟨gb1377, 4, none⟩) (Kd.S_far (p := ⟨gb1377, 3, none⟩) (Kd.S_far (p := ⟨gb1377, 2, none⟩) (Kd.S_far (p := ⟨gb1377, 1, none⟩) (Kd.S_far (p := ⟨gb1377, 0, none⟩) (Kd.S_types HO1380.out BK1377.out (by decide)) (fun _ hk => hk.2) (.slice Ao16 t1378.length co16)) (fun _ hk => hk.2) (.slice Ao15 t1381.length co15)) (fun _ hk => hk.2) (.slice Ao14 y1387.length co14)) (fun _ hk => hk.2) (.int .i64 a0_3)) (fun _ hk => hk.2) (.bool a0_4)) (fun _ hk => hk.1), by (with_reducible repeat (first | apply Kd.S_alloc | apply Kd.S_drewN | apply Kd.S_drew)); exact Kd.S_mono (Kd.S_far (p := ⟨gb1377, 4, none⟩) (Kd.S_far (p := ⟨gb1377, 3, none⟩) (Kd.S_far (p := ⟨gb1377, 2, none⟩) (Kd.S_far (p := ⟨gb1377, 1, none⟩) (Kd.S_far (p := ⟨gb1377, 0, none⟩) (Kd.S_types HO1383.out BK1377.out (by decide)) (fun _ hk => hk.2) (.slice Ao16 t1378.length co16)) (fun _ hk => hk.2) (.slice Ao15 t1381.length co15)) (fun _ hk => hk.2) (.slice Ao14 y1387.length co14)) (fun _ hk => hk.2) (.int .i64 a0_3)) (fun _ hk => hk.2) (.bool a0_4)) (fun _ hk => hk.1), by (with_reducible repeat (first | apply Kd.R_alloc | apply Kd.R_drewN | apply Kd.R_drew)); exact Kd.R_mono (Kd.R_far (p := ⟨gb1377, 4, none⟩) (Kd.R_far (p := ⟨gb1377, 3, none⟩) (Kd.R_far (p := ⟨gb1377, 2, none⟩) (Kd.R_far (p := ⟨gb1377, 1, none⟩) (Kd.R_far (p := ⟨gb1377, 0, none⟩) (Kd.R_types HO1389.out BK1377.out (by decide)) (fun _ hk => hk.2) (.slice Ao16 t1378.length co16)) (fun _ hk => hk.2) (.slice Ao15 t1381.length co15)) (fun _ hk => hk.2) (.slice Ao14 y1387.length co14)) (fun _ hk => hk.2) (.int .i64 a0_3)) (fun _ hk => hk.2) (.bool a0_4)) (fun _ hk => trivial), zb4⟩
 ·rw [if_neg c4] at H
  exact absurd H (by simp)
end Go.Proofs.Ytcefiblpnegepaa.Pr
