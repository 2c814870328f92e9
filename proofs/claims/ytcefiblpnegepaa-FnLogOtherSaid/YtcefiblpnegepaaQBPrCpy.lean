import Derived.Test.YtcefiblpnegepaaQBByq
import Derived.Test.YtcefiblpnegepaaQBSq
import Derived.Test.YtcefiblpnegepaaQBSx
import Derived.Test.YtcefiblpnegepaaQBSh
import Derived.Test.YtcefiblpnegepaaQBPrRedo
namespace Go.Proofs.Ytcefiblpnegepaa.Pr
open Go.RowKit Go.PW Go.PL Go.PM
attribute [local go_sem] Y3 Y4 YV YW Yk Yl Y5 Y6
set_option linter.unusedVariables false
set_option linter.unusedSimpArgs false
abbrev Xk8 : Array Bool := #[false, false, false, false, false, false, false, false, false, false, false, false, false, false, false, false]
abbrev Xk9 : Array Bool := #[true, false, false, false, false, false, false, false, false, false, false, false, false, false, false, false]
abbrev XkA : Array Bool := #[true, false, false, true, false, false, false, false, false, false, false, false, false, false, false, false]
abbrev XkB : Array Bool := #[true, false, false, true, false, false, false, true, false, false, false, false, false, false, false, false]
abbrev XkC : Array Bool := #[true, false, false, true, false, false, false, true, false, false, true, false, false, false, false, false]
abbrev XkD : Array Bool := #[true, false, false, true, false, false, false, true, false, false, true, false, true, false, false, false]
abbrev XkE : Array Bool := #[true, true, false, true, false, false, false, true, false, false, true, false, true, false, false, false]
abbrev XkF : Array Bool := #[true, true, false, true, true, false, false, true, false, false, true, false, true, false, false, false]
abbrev XkG : Array Bool := #[true, true, false, true, true, false, false, true, true, false, true, false, true, false, false, false]
abbrev XkH : Array Bool := #[true, true, false, true, true, false, false, true, true, false, true, true, true, false, false, false]
abbrev XgZ : Array Bool := #[true, true, false, true, true, false, false, true, true, false, true, true, true, true, false, false]
abbrev Xha : Array Bool := #[true, true, false, true, true, false, true, true, true, false, true, true, true, true, false, false]
abbrev Xhb : Array Bool := #[true, true, true, true, true, false, false, true, true, false, true, true, true, true, false, false]
abbrev Xa7 : Array Bool := #[true, true, true, true, true, false, true, true, true, false, true, true, true, true, false, false]
abbrev Xhc : Array Bool := #[true, true, true, true, true, true, false, true, true, false, true, true, true, true, false, false]
abbrev KW : Array Bool := #[true, true, true, true, true, true, true, true, true, false, true, true, true, true, false, false]
abbrev Xhd : Array Bool := #[true, true, true, true, true, true, true, true, true, true, true, true, true, true, false, false]
abbrev Xhe : Array Bool := #[true, true, true, true, true, true, true, true, true, true, true, true, true, true, true, false]
abbrev Xhf : Array Bool := #[true, true, true, true, true, true, true, true, true, true, true, true, true, true, true, true]
def ZQ.f (k : Nat) (Y2 : List (S25)) (Yi : List (S25)) (XE : List (S41)) (Yr : Int) (Y7 : Bool) : Option ((List (S25)) × (List (S25)) × (List (S41)) × Int × Bool) := (X4.f k Y2).bind fun UA => ((X4.f k Yi).bind fun G9 => ((some (([] : List (S41)) : List (S41))).bind fun Gi => (if Gi.length + XE.length < 2199023255552 then (some (UA, G9, (Gi ++ XE), Yr, Y7)) else (none))))
def ZQ.T1 : Bool × List (List Nat × List Nat) := (true, [([], []), ([0], [0]), ([1], [1]), ([], []), ([3], [3]), ([4, 2], [4]), ([], []), ([], []), ([7], [7]), ([6, 8, 5], [6, 8]), ([], []), ([10], [10]), ([], []), ([12], [12]), ([2, 5, 9, 11, 13], [2, 5, 9, 11, 13]), ([14, 9, 0, 1, 2, 3, 4, 5, 6, 7, 8, 9, 10, 11, 12, 13, 14], [14])])
def ZQ.B1 : List Nat := [0, 1, 3, 0, 8, 31, 0, 0, 128, 511, 0, 1024, 0, 4096, 16383, 32767]
theorem ZQ.Xou : JG .any (opsOf Try.f128 1) = ZQ.T1 := by kernel_rfl
theorem ZQ.XgL : Jh ZQ.T1.2 ZQ.B1 = true := by kernel_rfl
set_option maxHeartbeats 8000000 in
set_option maxRecDepth 100000 in
theorem ZQ.calls (k : Nat) (JJ : Option Addr) (JK : Nat) (Y2 : List (S25)) (JS : Option Addr) (J6 : Nat) (Yi : List (S25)) (Vf : Option Addr) (Vg : Nat) (XE : List (S41)) (Yr : Int) (Y7 : Bool) (r1 : List (S25)) (r2 : List (S25)) (r3 : List (S41)) (r4 : Int) (r5 : Bool) (w : World) (hr0_0 : Kd.C k25 w JJ Y2.length Y2) (hc0_0 : Y2.length ≤ JK) (hr0_1 : Kd.C k25 w JS Yi.length Yi) (hc0_1 : Yi.length ≤ J6) (hr0_2 : Kd.C k41 w Vf XE.length XE) (hc0_2 : XE.length ≤ Vg) (h : ZQ.f k Y2 Yi XE Yr Y7 = some (r1, r2, r3, r4, r5)) :
  Calls Try.prog 128 #[.agg #[.slice JJ Y2.length JK, .slice JS Yi.length J6, .slice Vf XE.length Vg, .int .i64 Yr, .bool Y7]] w fun e w' => ∃ v0_ v1_ v2_ : Value, e = .returned (.agg #[v0_, v1_, v2_, .int .i64 r4, .bool r5]) ∧ Kd.S k25 25 w' w.heap.size (fun k_ => some k_ ≠ (v1_ : Value).ownBlock) v0_ r1 ∧ Kd.S k25 25 w' w.heap.size (fun k_ => some k_ ≠ (v0_ : Value).ownBlock) v1_ r2 ∧ Kd.R k41 41 w' w.heap.size (fun _ => True) v2_ r3 ∧ Below w.heap.size w w' := by
 have hu52 := Try.underlying52; have XbP := az hr0_0; have Ol := az hc0_0; clear hr0_0 hc0_0; have XbO := az hr0_1; have Cm := az hc0_1; clear hr0_1 hc0_1; have TA := az hr0_2; have TD := az hc0_2; clear hr0_2 hc0_2; have HB := az (Below.refl w.heap.size w); have H : ((X4.f k Y2).bind fun UA => ((X4.f k Yi).bind fun G9 => ((some (([] : List (S41)) : List (S41))).bind fun Gi => (if Gi.length + XE.length < 2199023255552 then (some (UA, G9, (Gi ++ XE), Yr, Y7)) else (none))))) = some (r1, r2, r3, r4, r5) := h; clear h; replace H := Option.bind_eq_some_iff.mp H; obtain ⟨UA, A20, H⟩ := H; replace H : ((X4.f k Yi).bind fun G9 => ((some (([] : List (S41)) : List (S41))).bind fun Gi => (if Gi.length + XE.length < 2199023255552 then (some (UA, G9, (Gi ++ XE), Yr, Y7)) else (none)))) = some (r1, r2, r3, r4, r5) := H; have A2 := az A20; clear A20; replace H := Option.bind_eq_some_iff.mp H; obtain ⟨G9, A30, H⟩ := H; replace H : ((some (([] : List (S41)) : List (S41))).bind fun Gi => (if Gi.length + XE.length < 2199023255552 then (some (UA, G9, (Gi ++ XE), Yr, Y7)) else (none))) = some (r1, r2, r3, r4, r5) := H; have A3 := az A30; clear A30
 obtain ⟨Gi, hy1384⟩ : ∃ y_ : List (S41), y_ = (([] : List (S41))) := ⟨_, rfl⟩
 replace H : (if Gi.length + XE.length < 2199023255552 then (some (UA, G9, (Gi ++ XE), Yr, Y7)) else (none)) = some (r1, r2, r3, r4, r5) := by first | (rw [hy1384]; with_reducible exact H) | (have H2_ := (Option.bind_some _ _).symm.trans H; rw [hy1384]; with_reducible exact H2_) | (have H2_ := (Option.bind_some _ _).symm.trans H; with_reducible exact H2_) | with_reducible exact H | (rw [hy1384]; exact H) | exact H
 have Ny1384 := az hy1384; clear hy1384
 by_cases c4 : Gi.length + XE.length < 2199023255552
 ·rw [if_pos c4] at H
  have LMc4 := az c4; clear c4
  obtain ⟨QH, hy1387⟩ : ∃ y_ : List (S41), y_ = (Gi ++ XE) := ⟨_, rfl⟩
  replace H : (some (UA, G9, QH, Yr, Y7)) = some (r1, r2, r3, r4, r5) := by first | (rw [hy1387]; with_reducible exact H) | (have H2_ := (Option.bind_some _ _).symm.trans H; rw [hy1387]; with_reducible exact H2_) | (have H2_ := (Option.bind_some _ _).symm.trans H; with_reducible exact H2_) | with_reducible exact H | (rw [hy1387]; exact H) | exact H
  have Ny1387 := az hy1387; clear hy1387; simp only [Option.some.injEq, Prod.mk.injEq] at H; obtain ⟨rfl, rfl, rfl, rfl, rfl⟩ := H
  go_enter Try.func128, Try.ntmps128
  try go_wp2_with (first | ((with_reducible refine XZ (N := 1) rfl ?_); refine YL ?hg (N := 1) ?hd (cs := #[.slice JJ Y2.length JK, .slice JS Yi.length J6, .slice Vf XE.length Vg, .int .i64 Yr, .bool Y7]) (t := 52) ?hr ?_; (case hd => rfl); (case hg => rfl); (case hr => exact zb21); intro VS hg w5 hbox hb; have Yf := az (hbox); have Xma := az ((zb150 : w.heap.size ≤ VS)); have GE1376 := Xma; replace HB := az (Xe zb1 hb); clear hb hbox hg) | ((with_reducible refine XZ (N := 2) rfl ?_); refine YL ?hg (N := 2) ?hd (cs := #[.slice none 0 0, .slice none 0 0, .slice none 0 0, .int .i64 0, .bool false]) (t := 52) ?hr ?_; (case hd => rfl); (case hg => rfl); (case hr => exact zb21); intro YY hg w6 hbox hb; have ZI := az (hbox); have Xmb := az ((by rw [hg]; exact (Xq zb6) : w.heap.size ≤ YY)); have GE1377 := Xmb; replace HB := az (Xe zb6 hb); obtain ⟨Yp, Ur⟩ := nbq Yf hg; replace Yf := bq Yf hb; clear hb hbox hg))
  replace Yf := az (Yd Yf.out); replace ZI := az (Yd ZI.out); replace HB := az (wd HB.out); refine ZR (n := 16) (S := fun w' => w'.cell? ⟨VS, 0, none⟩ = some (.slice JJ Y2.length JK) ∧ w'.cell? ⟨VS, 1, none⟩ = some (.slice JS Yi.length J6) ∧ w'.cell? ⟨VS, 2, none⟩ = some (.slice Vf XE.length Vg) ∧ w'.cell? ⟨VS, 3, none⟩ = some (.int .i64 Yr) ∧ w'.cell? ⟨VS, 4, none⟩ = some (.bool Y7)) (ds := []) Xk8 zb13 rfl rfl ⟨bt Yf rfl, bt Yf rfl, bt Yf rfl, bt Yf rfl, bt Yf rfl⟩ (fun hHeld => ?_); refine ZV ZQ.Xou ZQ.XgL (fun HT_ HW_ => ?_); generalize w6.drew = w7 at Yf ZI HB hHeld ⊢; refine pu 0 3 Xk9 HT_ ?_; refine pu 3 6 XkA HT_ ?_; refine pu 7 10 XkB HT_ ?_; refine pu 10 13 XkC HT_ ?_; refine pu 12 15 XkD HT_ ?_; refine tk 1 4 XkE HT_ HW_ hHeld ?_; refine tk 4 7 XkF HT_ HW_ hHeld ?_; refine tk 8 11 XkG HT_ HW_ hHeld ?_; refine tk 11 14 XkH HT_ HW_ hHeld ?_; refine tk 13 16 XgZ HT_ HW_ hHeld ?_; refine XlH (σ := Value × Value × Value) 3 KW (fun s_ => [(5, s_.1), (8, s_.2.1), (9, s_.2.2)]) (fun s_ w' => (w'.cell? ⟨VS, 0, none⟩ = some (.slice JJ Y2.length JK) ∧ w'.cell? ⟨VS, 1, none⟩ = some (.slice JS Yi.length J6) ∧ w'.cell? ⟨VS, 2, none⟩ = some (.slice Vf XE.length Vg) ∧ w'.cell? ⟨VS, 3, none⟩ = some (.int .i64 Yr) ∧ w'.cell? ⟨VS, 4, none⟩ = some (.bool Y7)) ∧ (Kd.S k25 25 w' w.heap.size (fun k_ => some k_ ≠ (s_.2.1 : Value).ownBlock) s_.1 UA) ∧ (Kd.S k25 25 w' w.heap.size (fun k_ => some k_ ≠ (s_.1 : Value).ownBlock) s_.2.1 G9) ∧ (Kd.R k41 41 w' w.heap.size (fun _ => True) s_.2.2 Gi) ∧ (w'.heap[VS]? = some (.cells #[.slice JJ Y2.length JK, .slice JS Yi.length J6, .slice Vf XE.length Vg, .int .i64 Yr, .bool Y7] 52 (0, 0))) ∧ (w'.heap[YY]? = some (.cells #[.slice none 0 0, .slice none 0 0, .slice none 0 0, .int .i64 0, .bool false] 52 (0, 0))) ∧ (Below w.heap.size w w')) ?_ ?_
  rotate_left
  ·intro hCont
   refine Xbx (i := 2) (j := 6) (Ni := some 5) (Nj := some 9) Xhb Xha rfl rfl rfl rfl (P7 HT_.out zb13) (by decide) (by decide) (fun K hK => ?_) (fun K hK => ?_)
   ·skip
    refine Ji Try.func140 zb13 rfl #[.slice JJ Y2.length JK] (by rfl) rfl rfl zb0 ?_
    with_reducible refine (X4.calls k _ _ Y2 UA _ ?side1 ?side2 A2.out).mono ?_
    (case side1 => exact zb132)
    (case side2 => exact Ol.out)
    rintro e w8 ⟨Cn, rfl, ho0, hb⟩; refine ⟨_, rfl, ?_⟩; have U3 := az (Kd.Sm ho0 (Xq zb6)); replace Yf := bq Yf hb; replace ZI := bq ZI hb; replace HB := az (Xe zb6 hb)
    (try clear hb);(try clear hb2);(try clear hk);(try clear hi);(try clear ho0)
    refine hK.out _ _ ⟨bt Yf rfl, bt Yf rfl, bt Yf rfl, bt Yf rfl, bt Yf rfl⟩ (fun hHeld => ?_); clear hK K; refine YP (a' := ?_) ?_ ?_; rotate_left
    ·show Act.put _ (some 5) _ = _
     simp only [Act.put, List.setIfInBounds_toArray, List.set_cons_zero, List.set_cons_succ, XG, XW]
     rfl
    refine Xbx (i := 5) (j := 6) (Ni := some 8) (Nj := some 9) Xhc Xa7 rfl rfl rfl rfl (P7 HT_.out zb13) (by decide) (by decide) (fun K hK => ?_) (fun K hK => ?_)
    ·skip
     refine Ji Try.func140 zb13 rfl #[.slice JS Yi.length J6] (by rfl) rfl rfl zb0 ?_
     with_reducible refine (X4.calls k _ _ Yi G9 _ ?side1 ?side2 A3.out).mono ?_
     (case side1 => exact zb93)
     (case side2 => exact Cm.out)
     rintro e w9 ⟨TE, rfl, ho0, hb⟩; refine ⟨_, rfl, ?_⟩; have Nk := az (Kd.Sm (Kd.XbB ho0 (Kd.Xpr zb43)) (Xq zb6)); replace U3 := az (Kd.Wt zb43 (Kd.XbC ho0) hb); replace Yf := bq Yf hb; replace ZI := bq ZI hb; replace HB := az (Xe zb6 hb)
     (try clear hb);(try clear hb2);(try clear hk);(try clear hi);(try clear ho0)
     refine hK.out _ _ ⟨bt Yf rfl, bt Yf rfl, bt Yf rfl, bt Yf rfl, bt Yf rfl⟩ (fun hHeld => ?_); clear hK K; refine YP (a' := ?_) ?_ ?_; rotate_left
     ·show Act.put _ (some 8) _ = _
      simp only [Act.put, List.setIfInBounds_toArray, List.set_cons_zero, List.set_cons_succ, XG, XW]
      rfl
     refine Vr (i := 6) (N := some 9) KW rfl rfl (Zf HT_.out zb13) (by decide) (fun K hK => ?_)
     refine Kd.VC k41 _ 41 ?hg (N := 9) ?hd (xs := ([] : List (S41))) (inner := []) (ok := fun _ => True) (okp := fun _ => True) ?hr ?hp (fun _ hk => hk) trivial (Below.refl _ _) (Nat.le_refl _) (by simp) ?_; (case hd => rfl); (case hg => rfl); (case hr => exact zb21); (case hp => exact zb121)
     intro TF w10 ho11 hb hg_ hnew_; clear hg_ hnew_
     (first | rw [← Ny1384.out] at ho11 | (simp only [Int.reduceToNat] at ho11; rw [← Ny1384.out] at ho11))
     replace U3 := az (Kd.WM zb43 hb); replace Nk := az (Kd.WM (by (with_reducible repeat (first | apply Kd.Vz | apply Kd.V9 | apply Kd.DZ)); exact Nk.out) hb); have Nh := az (Kd.XT ho11 (Xq zb6)); replace Yf := bq Yf hb; replace ZI := bq ZI hb; replace HB := az (Xe zb6 hb); clear hb ho11; refine hK.out _ _ ⟨bt Yf rfl, bt Yf rfl, bt Yf rfl, bt Yf rfl, bt Yf rfl⟩ (fun hHeld => ?_); clear hK K; refine YP (a' := ?_) ?_ ?_; rotate_left
     ·show Act.put _ (some 9) _ = _
      simp only [Act.put, List.setIfInBounds_toArray, List.set_cons_zero, List.set_cons_succ, XG, XW]
      rfl
     exact YP zb78 (hCont (Cn, TE, TF) _ ⟨hHeld, zb104, zb103, zb44, zb109, zb108, zb6⟩)
    ·skip
     refine Kd.VC k41 _ 41 ?hg (N := 9) ?hd (xs := ([] : List (S41))) (inner := []) (ok := fun _ => True) (okp := fun _ => True) ?hr ?hp (fun _ hk => hk) trivial (Below.refl _ _) (Nat.le_refl _) (by simp) ?_; (case hd => rfl); (case hg => rfl); (case hr => exact zb21); (case hp => exact zb121)
     intro TF w9 ho10 hb hg_ hnew_; clear hg_ hnew_
     (first | rw [← Ny1384.out] at ho10 | (simp only [Int.reduceToNat] at ho10; rw [← Ny1384.out] at ho10))
     replace U3 := az (Kd.WM zb43 hb); have Nh := az (Kd.XT ho10 (Xq zb6)); replace Yf := bq Yf hb; replace ZI := bq ZI hb; replace HB := az (Xe zb6 hb); clear hb ho10; refine hK.out _ _ ⟨bt Yf rfl, bt Yf rfl, bt Yf rfl, bt Yf rfl, bt Yf rfl⟩ (fun hHeld => ?_); clear hK K; refine YP (a' := ?_) ?_ ?_; rotate_left
     ·show Act.put _ (some 9) _ = _
      simp only [Act.put, List.setIfInBounds_toArray, List.set_cons_zero, List.set_cons_succ, XG, XW]
      rfl
     refine Vr (i := 5) (N := some 8) KW rfl rfl (Zf HT_.out zb13) (by decide) (fun K hK => ?_); refine Ji Try.func140 zb13 rfl #[.slice JS Yi.length J6] (by rfl) rfl rfl zb0 ?_
     with_reducible refine (X4.calls k _ _ Yi G9 _ ?side1 ?side2 A3.out).mono ?_
     (case side1 => exact zb93)
     (case side2 => exact Cm.out)
     rintro e w11 ⟨TE, rfl, ho0, hb⟩; refine ⟨_, rfl, ?_⟩; replace Nh := az (Kd.Xz zb44 hb); have Nk := az (Kd.Sm (Kd.XbB ho0 (Kd.Xpr zb43)) (Xq zb6)); replace U3 := az (Kd.Wt zb43 (Kd.XbC ho0) hb); replace Yf := bq Yf hb; replace ZI := bq ZI hb; replace HB := az (Xe zb6 hb)
     (try clear hb);(try clear hb2);(try clear hk);(try clear hi);(try clear ho0)
     refine hK.out _ _ ⟨bt Yf rfl, bt Yf rfl, bt Yf rfl, bt Yf rfl, bt Yf rfl⟩ (fun hHeld => ?_); clear hK K; refine YP (a' := ?_) ?_ ?_; rotate_left
     ·show Act.put _ (some 8) _ = _
      simp only [Act.put, List.setIfInBounds_toArray, List.set_cons_zero, List.set_cons_succ, XG, XW]
      rfl
     exact YP zb78 (hCont (Cn, TE, TF) _ ⟨hHeld, zb104, zb103, zb44, zb109, zb108, zb6⟩)
   ·skip
    refine Kd.VC k41 _ 41 ?hg (N := 9) ?hd (xs := ([] : List (S41))) (inner := []) (ok := fun _ => True) (okp := fun _ => True) ?hr ?hp (fun _ hk => hk) trivial (Below.refl _ _) (Nat.le_refl _) (by simp) ?_; (case hd => rfl); (case hg => rfl); (case hr => exact zb21); (case hp => exact zb121)
    intro TF w8 ho9 hb hg_ hnew_; clear hg_ hnew_
    (first | rw [← Ny1384.out] at ho9 | (simp only [Int.reduceToNat] at ho9; rw [← Ny1384.out] at ho9))
    have Nh := az (Kd.XT ho9 (Xq zb6)); replace Yf := bq Yf hb; replace ZI := bq ZI hb; replace HB := az (Xe zb6 hb); clear hb ho9; refine hK.out _ _ ⟨bt Yf rfl, bt Yf rfl, bt Yf rfl, bt Yf rfl, bt Yf rfl⟩ (fun hHeld => ?_); clear hK K; refine YP (a' := ?_) ?_ ?_; rotate_left
    ·show Act.put _ (some 9) _ = _
     simp only [Act.put, List.setIfInBounds_toArray, List.set_cons_zero, List.set_cons_succ, XG, XW]
     rfl
    refine Vr (i := 2) (N := some 5) Xa7 rfl rfl (Zf HT_.out zb13) (by decide) (fun K hK => ?_); refine Ji Try.func140 zb13 rfl #[.slice JJ Y2.length JK] (by rfl) rfl rfl zb0 ?_
    with_reducible refine (X4.calls k _ _ Y2 UA _ ?side1 ?side2 A2.out).mono ?_
    (case side1 => exact zb132)
    (case side2 => exact Ol.out)
    rintro e w10 ⟨Cn, rfl, ho0, hb⟩; refine ⟨_, rfl, ?_⟩; replace Nh := az (Kd.Xz zb44 hb); have U3 := az (Kd.Sm ho0 (Xq zb6)); replace Yf := bq Yf hb; replace ZI := bq ZI hb; replace HB := az (Xe zb6 hb)
    (try clear hb);(try clear hb2);(try clear hk);(try clear hi);(try clear ho0)
    refine hK.out _ _ ⟨bt Yf rfl, bt Yf rfl, bt Yf rfl, bt Yf rfl, bt Yf rfl⟩ (fun hHeld => ?_); clear hK K; refine YP (a' := ?_) ?_ ?_; rotate_left
    ·show Act.put _ (some 5) _ = _
     simp only [Act.put, List.setIfInBounds_toArray, List.set_cons_zero, List.set_cons_succ, XG, XW]
     rfl
    refine Vr (i := 5) (N := some 8) KW rfl rfl (Zf HT_.out zb13) (by decide) (fun K hK => ?_); refine Ji Try.func140 zb13 rfl #[.slice JS Yi.length J6] (by rfl) rfl rfl zb0 ?_
    with_reducible refine (X4.calls k _ _ Yi G9 _ ?side1 ?side2 A3.out).mono ?_
    (case side1 => exact zb93)
    (case side2 => exact Cm.out)
    rintro e w11 ⟨TE, rfl, ho0, hb⟩; refine ⟨_, rfl, ?_⟩; replace Nh := az (Kd.Xz zb44 hb); have Nk := az (Kd.Sm (Kd.XbB ho0 (Kd.Xpr zb43)) (Xq zb6)); replace U3 := az (Kd.Wt zb43 (Kd.XbC ho0) hb); replace Yf := bq Yf hb; replace ZI := bq ZI hb; replace HB := az (Xe zb6 hb)
    (try clear hb);(try clear hb2);(try clear hk);(try clear hi);(try clear ho0)
    refine hK.out _ _ ⟨bt Yf rfl, bt Yf rfl, bt Yf rfl, bt Yf rfl, bt Yf rfl⟩ (fun hHeld => ?_); clear hK K; refine YP (a' := ?_) ?_ ?_; rotate_left
    ·show Act.put _ (some 8) _ = _
     simp only [Act.put, List.setIfInBounds_toArray, List.set_cons_zero, List.set_cons_succ, XG, XW]
     rfl
    exact YP zb78 (hCont (Cn, TE, TF) _ ⟨hHeld, zb104, zb103, zb44, zb109, zb108, zb6⟩)
  rintro ⟨Cn, TE, TF⟩ w12 ⟨hS_, h0_, h1_, h2_, h3_, h4_, h5_⟩
  have U3 : Aside0 (Kd.S k25 25 w12 w.heap.size (fun k_ => some k_ ≠ (TE : Value).ownBlock) Cn UA) := ⟨h0_⟩
  have Nk : Aside0 (Kd.S k25 25 w12 w.heap.size (fun k_ => some k_ ≠ (Cn : Value).ownBlock) TE G9) := ⟨h1_⟩
  have Nh : Aside0 (Kd.R k41 41 w12 w.heap.size (fun _ => True) TF Gi) := ⟨h2_⟩
  replace Yf : Aside0 (w12.heap[VS]? = some (.cells #[.slice JJ Y2.length JK, .slice JS Yi.length J6, .slice Vf XE.length Vg, .int .i64 Yr, .bool Y7] 52 (0, 0))) := ⟨h3_⟩
  replace ZI : Aside0 (w12.heap[YY]? = some (.cells #[.slice none 0 0, .slice none 0 0, .slice none 0 0, .int .i64 0, .bool false] 52 (0, 0))) := ⟨h4_⟩
  replace HB : Aside0 (Below w.heap.size w w12) := ⟨h5_⟩
  clear h0_ h1_ h2_ h3_ h4_ h5_; have hHeld : w12.cell? ⟨VS, 0, none⟩ = some (.slice JJ Y2.length JK) ∧ w12.cell? ⟨VS, 1, none⟩ = some (.slice JS Yi.length J6) ∧ w12.cell? ⟨VS, 2, none⟩ = some (.slice Vf XE.length Vg) ∧ w12.cell? ⟨VS, 3, none⟩ = some (.int .i64 Yr) ∧ w12.cell? ⟨VS, 4, none⟩ = some (.bool Y7) := hS_; refine YP (a' := ?_) ?_ ?_; rotate_left
  ·simp only [Lu, Act.put, List.setIfInBounds_toArray, List.set_cons_zero, List.set_cons_succ]
   rfl
  refine Vr (i := 9) (N := some 12) Xhd rfl rfl (Zf HT_.out zb13) (by decide) (fun K hK => ?_); refine Kd.JH k41 (w0 := w) w.heap.size (by rfl) (.tmp 9) (.tmp 11) 34 41 (.agg #[(.int .i64 0), (.int .i64 0), (.int .i64 0), (.int .i64 0), (.int .i64 0), (.int .i64 0), (.int .i64 0), (.int .i64 0)]) 64 rfl Try.underlying34 FP rfl (by decide) (by omega) TF Gi XE _ _ _ (fun _ => True) (fun _ => False) rfl rfl ?aO ?aR (fun _ _ h => h) (fun _ h => h.elim) ?aF ?aB ?aS ?aL ?_
  (case aR => exact zb72)
  (case aB => exact zb6)
  (case aF => exact zb139)
  (case aO => exact zb44)
  (case aS => exact (Xq zb6))
  (case aL => have := LMc4.out; omega)
  intro v1388 w13 ho hb hg hat; rw [← Ny1387.out] at ho; replace Yf := az (Jk (g := VS) (o := .cells #[.slice JJ Y2.length JK, .slice JS Yi.length J6, .slice Vf XE.length Vg, .int .i64 Yr, .bool Y7] 52 (0, 0)) zb109 hg (Kd.Pf Nh.out Yf.out (by decide))); replace ZI := az (Jk (g := YY) (o := .cells #[.slice none 0 0, .slice none 0 0, .slice none 0 0, .int .i64 0, .bool false] 52 (0, 0)) zb108 hg (Kd.Pf Nh.out ZI.out (by decide))); replace U3 := az (Kd.Xdo zb43 (Kd.Fp zb44) (by decide) hg); replace Nk := az (Kd.Xdo (by (with_reducible repeat (first | apply Kd.Vz | apply Kd.V9 | apply Kd.DZ)); exact Nk.out) (Kd.Fp zb44) (by decide) hg); replace HB := az (hb); have XeE := az (ho); clear Nh ho hb hg hat; obtain ⟨Xd5, Xd6, eo14⟩ := Kd.Xx XeE.out
  (first | subst eo14 | (injection eo14 with f1_ f2_ f3_; have f4_ := f1_.symm; have f5_ := f3_.symm; clear f1_ f2_ f3_; subst f4_; subst f5_))
  obtain ⟨Xd7, Xd8, eo15⟩ := Kd.Xdp Nk.out
  (first | subst eo15 | (injection eo15 with f1_ f2_ f3_; have f4_ := f1_.symm; have f5_ := f3_.symm; clear f1_ f2_ f3_; subst f4_; subst f5_))
  obtain ⟨XhS, XhT, eo16⟩ := Kd.Xdp U3.out
  (first | subst eo16 | (injection eo16 with f1_ f2_ f3_; have f4_ := f1_.symm; have f5_ := f3_.symm; clear f1_ f2_ f3_; subst f4_; subst f5_))
  refine hK.out _ _ ⟨bt Yf rfl, bt Yf rfl, bt Yf rfl, bt Yf rfl, bt Yf rfl⟩ (fun hHeld => ?_); clear hK K; refine YP (a' := ?_) ?_ ?_; rotate_left
  ·show Act.put _ (some 12) _ = _
   simp only [Act.put, List.setIfInBounds_toArray, List.set_cons_zero, List.set_cons_succ, XG, XW]
   rfl
  refine pu 14 17 Xhe HT_ ?_; refine Vr (i := 15) (N := none) Xhf rfl rfl (Zf HT_.out zb13) (by decide) (fun K hK => ?_); have hs17 : w13.cell? ⟨YY, 0, none⟩ = some (.slice none 0 0) := bt ZI rfl; have hfs17 := Xf ZI.out 0; have hns17_0 := Yp.out; have hms17_0 := Ur.out; have hs18 : w13.cell? ⟨YY, 1, none⟩ = some (.slice none 0 0) := bt ZI rfl; have hfs18 := Xf ZI.out 1; have hns18_0 := Yp.out; have hms18_0 := Ur.out; have hs19 : w13.cell? ⟨YY, 2, none⟩ = some (.slice none 0 0) := bt ZI rfl; have hfs19 := Xf ZI.out 2; have hns19_0 := Yp.out; have hms19_0 := Ur.out; have hs20 : w13.cell? ⟨YY, 3, none⟩ = some (.int .i64 0) := bt ZI rfl; have hfs20 := Xf ZI.out 3; have hns20_0 := Yp.out; have hms20_0 := Ur.out; have hs21 : w13.cell? ⟨YY, 4, none⟩ = some (.bool false) := bt ZI rfl; have hfs21 := Xf ZI.out 4; have hns21_0 := Yp.out; have hms21_0 := Ur.out; refine M9 (w1 := ?_) (by rfl) rfl ?_ ?_; rotate_left
  ·go_simp
   rfl
  refine hK.out _ _ ⟨((cell_far (p := ⟨YY, _, none⟩) Yp.out _).trans (((cell_far (p := ⟨YY, _, none⟩) Yp.out _).trans (((cell_far (p := ⟨YY, _, none⟩) Yp.out _).trans (((cell_far (p := ⟨YY, _, none⟩) Yp.out _).trans (((cell_far (p := ⟨YY, _, none⟩) Yp.out _).trans (hHeld.1)))))))))), ((cell_far (p := ⟨YY, _, none⟩) Yp.out _).trans (((cell_far (p := ⟨YY, _, none⟩) Yp.out _).trans (((cell_far (p := ⟨YY, _, none⟩) Yp.out _).trans (((cell_far (p := ⟨YY, _, none⟩) Yp.out _).trans (((cell_far (p := ⟨YY, _, none⟩) Yp.out _).trans (hHeld.2.1)))))))))), ((cell_far (p := ⟨YY, _, none⟩) Yp.out _).trans (((cell_far (p := ⟨YY, _, none⟩) Yp.out _).trans (((cell_far (p := ⟨YY, _, none⟩) Yp.out _).trans (((cell_far (p := ⟨YY, _, none⟩) Yp.out _).trans (((cell_far (p := ⟨YY, _, none⟩) Yp.out _).trans (hHeld.2.2.1)))))))))), ((cell_far (p := ⟨YY, _, none⟩) Yp.out _).trans (((cell_far (p := ⟨YY, _, none⟩) Yp.out _).trans (((cell_far (p := ⟨YY, _, none⟩) Yp.out _).trans (((cell_far (p := ⟨YY, _, none⟩) Yp.out _).trans (((cell_far (p := ⟨YY, _, none⟩) Yp.out _).trans (hHeld.2.2.2.1)))))))))), ((cell_far (p := ⟨YY, _, none⟩) Yp.out _).trans (((cell_far (p := ⟨YY, _, none⟩) Yp.out _).trans (((cell_far (p := ⟨YY, _, none⟩) Yp.out _).trans (((cell_far (p := ⟨YY, _, none⟩) Yp.out _).trans (((cell_far (p := ⟨YY, _, none⟩) Yp.out _).trans (hHeld.2.2.2.2))))))))))⟩ (fun hHeld => ?_)
  clear hK K; refine J4 (J9 HT_.out zb13) ?_
  try go_wp2
  refine bodyPost_ret (results_cell_row rfl _ _ YY 52 #[.slice XhS UA.length XhT, .slice Xd7 G9.length Xd8, .slice Xd5 QH.length Xd6, .int .i64 Yr, .bool Y7] (0, 0) _ rfl (by (with_reducible repeat (first | apply bn | apply bd | apply ba)); exact p5 ZI) Try.underlying52 rfl zb13) rfl ?_; exact ⟨_, _, _, zb11, by (with_reducible repeat (first | apply Kd.Vz | apply Kd.V9 | apply Kd.DZ)); exact Kd.Pz (Kd.Pm (p := ⟨YY, 4, none⟩) (Kd.Pm (p := ⟨YY, 3, none⟩) (Kd.Pm (p := ⟨YY, 2, none⟩) (Kd.Pm (p := ⟨YY, 1, none⟩) (Kd.Pm (p := ⟨YY, 0, none⟩) (Kd.Xdq U3.out ZI.out (by decide)) (fun _ hk => hk.2) (.slice XhS UA.length XhT)) (fun _ hk => hk.2) (.slice Xd7 G9.length Xd8)) (fun _ hk => hk.2) (.slice Xd5 QH.length Xd6)) (fun _ hk => hk.2) (.int .i64 Yr)) (fun _ hk => hk.2) (.bool Y7)) (fun _ hk => hk.1), by (with_reducible repeat (first | apply Kd.Vz | apply Kd.V9 | apply Kd.DZ)); exact Kd.Pz (Kd.Pm (p := ⟨YY, 4, none⟩) (Kd.Pm (p := ⟨YY, 3, none⟩) (Kd.Pm (p := ⟨YY, 2, none⟩) (Kd.Pm (p := ⟨YY, 1, none⟩) (Kd.Pm (p := ⟨YY, 0, none⟩) (Kd.Xdq Nk.out ZI.out (by decide)) (fun _ hk => hk.2) (.slice XhS UA.length XhT)) (fun _ hk => hk.2) (.slice Xd7 G9.length Xd8)) (fun _ hk => hk.2) (.slice Xd5 QH.length Xd6)) (fun _ hk => hk.2) (.int .i64 Yr)) (fun _ hk => hk.2) (.bool Y7)) (fun _ hk => hk.1), by (with_reducible repeat (first | apply Kd.XI | apply Kd.XJ | apply Kd.XR)); exact Kd.XN (Kd.ZZ (p := ⟨YY, 4, none⟩) (Kd.ZZ (p := ⟨YY, 3, none⟩) (Kd.ZZ (p := ⟨YY, 2, none⟩) (Kd.ZZ (p := ⟨YY, 1, none⟩) (Kd.ZZ (p := ⟨YY, 0, none⟩) (Kd.F9 XeE.out ZI.out (by decide)) (fun _ hk => hk.2) (.slice XhS UA.length XhT)) (fun _ hk => hk.2) (.slice Xd7 G9.length Xd8)) (fun _ hk => hk.2) (.slice Xd5 QH.length Xd6)) (fun _ hk => hk.2) (.int .i64 Yr)) (fun _ hk => hk.2) (.bool Y7)) (fun _ hk => trivial), zb6⟩
 ·rw [if_neg c4] at H
  exact absurd H (by simp)
end Go.Proofs.Ytcefiblpnegepaa.Pr
