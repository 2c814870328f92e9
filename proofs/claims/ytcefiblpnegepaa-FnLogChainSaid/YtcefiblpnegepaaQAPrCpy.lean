import Derived.Test.YtcefiblpnegepaaQAByq
import Derived.Test.YtcefiblpnegepaaQASq
import Derived.Test.YtcefiblpnegepaaQASx
import Derived.Test.YtcefiblpnegepaaQASh
import Derived.Test.YtcefiblpnegepaaQAPrRedo
namespace Go.Proofs.Ytcefiblpnegepaa.Pr
open Go.RowKit Go.PW Go.PL Go.PM
attribute [local go_sem] YB YC Zc Zd Yn Yo YD YE
set_option linter.unusedVariables false
set_option linter.unusedSimpArgs false
abbrev Xlw : Array Bool := #[false, false, false, false, false, false, false, false, false, false, false, false, false, false, false, false]
abbrev Xlx : Array Bool := #[true, false, false, false, false, false, false, false, false, false, false, false, false, false, false, false]
abbrev Xly : Array Bool := #[true, false, false, true, false, false, false, false, false, false, false, false, false, false, false, false]
abbrev Xlz : Array Bool := #[true, false, false, true, false, false, false, true, false, false, false, false, false, false, false, false]
abbrev Xl0 : Array Bool := #[true, false, false, true, false, false, false, true, false, false, true, false, false, false, false, false]
abbrev Xl1 : Array Bool := #[true, false, false, true, false, false, false, true, false, false, true, false, true, false, false, false]
abbrev Xl2 : Array Bool := #[true, true, false, true, false, false, false, true, false, false, true, false, true, false, false, false]
abbrev Xl3 : Array Bool := #[true, true, false, true, true, false, false, true, false, false, true, false, true, false, false, false]
abbrev Xl4 : Array Bool := #[true, true, false, true, true, false, false, true, true, false, true, false, true, false, false, false]
abbrev Xl5 : Array Bool := #[true, true, false, true, true, false, false, true, true, false, true, true, true, false, false, false]
abbrev Xh3 : Array Bool := #[true, true, false, true, true, false, false, true, true, false, true, true, true, true, false, false]
abbrev Xh4 : Array Bool := #[true, true, false, true, true, false, true, true, true, false, true, true, true, true, false, false]
abbrev Xh5 : Array Bool := #[true, true, true, true, true, false, false, true, true, false, true, true, true, true, false, false]
abbrev Xbb : Array Bool := #[true, true, true, true, true, false, true, true, true, false, true, true, true, true, false, false]
abbrev Xh6 : Array Bool := #[true, true, true, true, true, true, false, true, true, false, true, true, true, true, false, false]
abbrev L9 : Array Bool := #[true, true, true, true, true, true, true, true, true, false, true, true, true, true, false, false]
abbrev Xh7 : Array Bool := #[true, true, true, true, true, true, true, true, true, true, true, true, true, true, false, false]
abbrev Xh8 : Array Bool := #[true, true, true, true, true, true, true, true, true, true, true, true, true, true, true, false]
abbrev Xh9 : Array Bool := #[true, true, true, true, true, true, true, true, true, true, true, true, true, true, true, true]
def ZW.f (k : Nat) (Y1 : List (S25)) (Yd : List (S25)) (X9 : List (S41)) (Yl : Int) (Y6 : Bool) : Option ((List (S25)) × (List (S25)) × (List (S41)) × Int × Bool) := (Xy.f k Y1).bind fun U8 => ((Xy.f k Yd).bind fun Gy => ((some (([] : List (S41)) : List (S41))).bind fun Gg => (if Gg.length + X9.length < 2199023255552 then (some (U8, Gy, (Gg ++ X9), Yl, Y6)) else (none))))
def ZW.T1 : Bool × List (List Nat × List Nat) := (true, [([], []), ([0], [0]), ([1], [1]), ([], []), ([3], [3]), ([4, 2], [4]), ([], []), ([], []), ([7], [7]), ([6, 8, 5], [6, 8]), ([], []), ([10], [10]), ([], []), ([12], [12]), ([2, 5, 9, 11, 13], [2, 5, 9, 11, 13]), ([14, 9, 0, 1, 2, 3, 4, 5, 6, 7, 8, 9, 10, 11, 12, 13, 14], [14])])
def ZW.B1 : List Nat := [0, 1, 3, 0, 8, 31, 0, 0, 128, 511, 0, 1024, 0, 4096, 16383, 32767]
theorem ZW.XoY : JI .any (opsOf Try.f128 1) = ZW.T1 := by kernel_rfl
theorem ZW.Xhr : Jn ZW.T1.2 ZW.B1 = true := by kernel_rfl
set_option maxHeartbeats 8000000 in
set_option maxRecDepth 100000 in
theorem ZW.calls (k : Nat) (JL : Option Addr) (JM : Nat) (Y1 : List (S25)) (JV : Option Addr) (J9 : Nat) (Yd : List (S25)) (Vi : Option Addr) (Vj : Nat) (X9 : List (S41)) (Yl : Int) (Y6 : Bool) (r1 : List (S25)) (r2 : List (S25)) (r3 : List (S41)) (r4 : Int) (r5 : Bool) (w : World) (hr0_0 : Kd.C k25 w JL Y1.length Y1) (hc0_0 : Y1.length ≤ JM) (hr0_1 : Kd.C k25 w JV Yd.length Yd) (hc0_1 : Yd.length ≤ J9) (hr0_2 : Kd.C k41 w Vi X9.length X9) (hc0_2 : X9.length ≤ Vj) (h : ZW.f k Y1 Yd X9 Yl Y6 = some (r1, r2, r3, r4, r5)) :
  Calls Try.prog 128 #[.agg #[.slice JL Y1.length JM, .slice JV Yd.length J9, .slice Vi X9.length Vj, .int .i64 Yl, .bool Y6]] w fun e w' => ∃ v0_ v1_ v2_ : Value, e = .returned (.agg #[v0_, v1_, v2_, .int .i64 r4, .bool r5]) ∧ Kd.S k25 25 w' w.heap.size (fun k_ => some k_ ≠ (v1_ : Value).ownBlock) v0_ r1 ∧ Kd.S k25 25 w' w.heap.size (fun k_ => some k_ ≠ (v0_ : Value).ownBlock) v1_ r2 ∧ Kd.R k41 41 w' w.heap.size (fun _ => True) v2_ r3 ∧ Below w.heap.size w w' := by
 have hu52 := Try.underlying52; have Xcr := az hr0_0; have OQ := az hc0_0; clear hr0_0 hc0_0; have Xcq := az hr0_1; have Bg := az hc0_1; clear hr0_1 hc0_1; have Rb := az hr0_2; have Rh := az hc0_2; clear hr0_2 hc0_2; have HB := az (Below.refl w.heap.size w); have H : ((Xy.f k Y1).bind fun U8 => ((Xy.f k Yd).bind fun Gy => ((some (([] : List (S41)) : List (S41))).bind fun Gg => (if Gg.length + X9.length < 2199023255552 then (some (U8, Gy, (Gg ++ X9), Yl, Y6)) else (none))))) = some (r1, r2, r3, r4, r5) := h; clear h; replace H := Option.bind_eq_some_iff.mp H; obtain ⟨U8, A20, H⟩ := H; replace H : ((Xy.f k Yd).bind fun Gy => ((some (([] : List (S41)) : List (S41))).bind fun Gg => (if Gg.length + X9.length < 2199023255552 then (some (U8, Gy, (Gg ++ X9), Yl, Y6)) else (none)))) = some (r1, r2, r3, r4, r5) := H; have A2 := az A20; clear A20; replace H := Option.bind_eq_some_iff.mp H; obtain ⟨Gy, A30, H⟩ := H; replace H : ((some (([] : List (S41)) : List (S41))).bind fun Gg => (if Gg.length + X9.length < 2199023255552 then (some (U8, Gy, (Gg ++ X9), Yl, Y6)) else (none))) = some (r1, r2, r3, r4, r5) := H; have A3 := az A30; clear A30
 obtain ⟨Gg, hy1384⟩ : ∃ y_ : List (S41), y_ = (([] : List (S41))) := ⟨_, rfl⟩
 replace H : (if Gg.length + X9.length < 2199023255552 then (some (U8, Gy, (Gg ++ X9), Yl, Y6)) else (none)) = some (r1, r2, r3, r4, r5) := by first | (rw [hy1384]; with_reducible exact H) | (have H2_ := (Option.bind_some _ _).symm.trans H; rw [hy1384]; with_reducible exact H2_) | (have H2_ := (Option.bind_some _ _).symm.trans H; with_reducible exact H2_) | with_reducible exact H | (rw [hy1384]; exact H) | exact H
 have Ny1384 := az hy1384; clear hy1384
 by_cases c4 : Gg.length + X9.length < 2199023255552
 ·rw [if_pos c4] at H
  have LMc4 := az c4; clear c4
  obtain ⟨Xak, hy1387⟩ : ∃ y_ : List (S41), y_ = (Gg ++ X9) := ⟨_, rfl⟩
  replace H : (some (U8, Gy, Xak, Yl, Y6)) = some (r1, r2, r3, r4, r5) := by first | (rw [hy1387]; with_reducible exact H) | (have H2_ := (Option.bind_some _ _).symm.trans H; rw [hy1387]; with_reducible exact H2_) | (have H2_ := (Option.bind_some _ _).symm.trans H; with_reducible exact H2_) | with_reducible exact H | (rw [hy1387]; exact H) | exact H
  have Ny1387 := az hy1387; clear hy1387; simp only [Option.some.injEq, Prod.mk.injEq] at H; obtain ⟨rfl, rfl, rfl, rfl, rfl⟩ := H
  go_enter Try.func128, Try.ntmps128
  try go_wp2_with (first | ((with_reducible refine XO (N := 1) rfl ?_); refine Y4 ?hg (N := 1) ?hd (cs := #[.slice JL Y1.length JM, .slice JV Yd.length J9, .slice Vi X9.length Vj, .int .i64 Yl, .bool Y6]) (t := 52) ?hr ?_; (case hd => rfl); (case hg => rfl); (case hr => exact zb22); intro VW hg w5 hbox hb; have Yb := az (hbox); have XmR := az ((zb148 : w.heap.size ≤ VW)); have GE1376 := XmR; replace HB := az (Xe zb1 hb); clear hb hbox hg) | ((with_reducible refine XO (N := 2) rfl ?_); refine Y4 ?hg (N := 2) ?hd (cs := #[.slice none 0 0, .slice none 0 0, .slice none 0 0, .int .i64 0, .bool false]) (t := 52) ?hr ?_; (case hd => rfl); (case hg => rfl); (case hr => exact zb22); intro YS hg w6 hbox hb; have ZP := az (hbox); have XmS := az ((by rw [hg]; exact (Xr zb6) : w.heap.size ≤ YS)); have GE1377 := XmS; replace HB := az (Xe zb6 hb); obtain ⟨Yi, Um⟩ := nbq Yb hg; replace Yb := bq Yb hb; clear hb hbox hg))
  replace Yb := az (XZ Yb.out); replace ZP := az (XZ ZP.out); replace HB := az (wd HB.out); refine ZY (n := 16) (S := fun w' => w'.cell? ⟨VW, 0, none⟩ = some (.slice JL Y1.length JM) ∧ w'.cell? ⟨VW, 1, none⟩ = some (.slice JV Yd.length J9) ∧ w'.cell? ⟨VW, 2, none⟩ = some (.slice Vi X9.length Vj) ∧ w'.cell? ⟨VW, 3, none⟩ = some (.int .i64 Yl) ∧ w'.cell? ⟨VW, 4, none⟩ = some (.bool Y6)) (ds := []) Xlw zb14 rfl rfl ⟨bt Yb rfl, bt Yb rfl, bt Yb rfl, bt Yb rfl, bt Yb rfl⟩ (fun hHeld => ?_); refine Ja ZW.XoY ZW.Xhr (fun HT_ HW_ => ?_); generalize w6.drew = w7 at Yb ZP HB hHeld ⊢; refine pu 0 3 Xlx HT_ ?_; refine pu 3 6 Xly HT_ ?_; refine pu 7 10 Xlz HT_ ?_; refine pu 10 13 Xl0 HT_ ?_; refine pu 12 15 Xl1 HT_ ?_; refine tk 1 4 Xl2 HT_ HW_ hHeld ?_; refine tk 4 7 Xl3 HT_ HW_ hHeld ?_; refine tk 8 11 Xl4 HT_ HW_ hHeld ?_; refine tk 11 14 Xl5 HT_ HW_ hHeld ?_; refine tk 13 16 Xh3 HT_ HW_ hHeld ?_; refine XmB (σ := Value × Value × Value) 3 L9 (fun s_ => [(5, s_.1), (8, s_.2.1), (9, s_.2.2)]) (fun s_ w' => (w'.cell? ⟨VW, 0, none⟩ = some (.slice JL Y1.length JM) ∧ w'.cell? ⟨VW, 1, none⟩ = some (.slice JV Yd.length J9) ∧ w'.cell? ⟨VW, 2, none⟩ = some (.slice Vi X9.length Vj) ∧ w'.cell? ⟨VW, 3, none⟩ = some (.int .i64 Yl) ∧ w'.cell? ⟨VW, 4, none⟩ = some (.bool Y6)) ∧ (Kd.S k25 25 w' w.heap.size (fun k_ => some k_ ≠ (s_.2.1 : Value).ownBlock) s_.1 U8) ∧ (Kd.S k25 25 w' w.heap.size (fun k_ => some k_ ≠ (s_.1 : Value).ownBlock) s_.2.1 Gy) ∧ (Kd.R k41 41 w' w.heap.size (fun _ => True) s_.2.2 Gg) ∧ (w'.heap[VW]? = some (.cells #[.slice JL Y1.length JM, .slice JV Yd.length J9, .slice Vi X9.length Vj, .int .i64 Yl, .bool Y6] 52 (0, 0))) ∧ (w'.heap[YS]? = some (.cells #[.slice none 0 0, .slice none 0 0, .slice none 0 0, .int .i64 0, .bool false] 52 (0, 0))) ∧ (Below w.heap.size w w')) ?_ ?_
  rotate_left
  ·intro hCont
   refine XbO (i := 2) (j := 6) (Ni := some 5) (Nj := some 9) Xh5 Xh4 rfl rfl rfl rfl (Km HT_.out zb14) (by decide) (by decide) (fun K hK => ?_) (fun K hK => ?_)
   ·skip
    refine Jo Try.func140 zb14 rfl #[.slice JL Y1.length JM] (by rfl) rfl rfl zb0 ?_
    with_reducible refine (Xy.calls k _ _ Y1 U8 _ ?side1 ?side2 A2.out).mono ?_
    (case side1 => exact zb128)
    (case side2 => exact OQ.out)
    rintro e w8 ⟨Bh, rfl, ho0, hb⟩; refine ⟨_, rfl, ?_⟩; have U0 := az (Kd.SG ho0 (Xr zb6)); replace Yb := bq Yb hb; replace ZP := bq ZP hb; replace HB := az (Xe zb6 hb)
    (try clear hb);(try clear hb2);(try clear hk);(try clear hi);(try clear ho0)
    refine hK.out _ _ ⟨bt Yb rfl, bt Yb rfl, bt Yb rfl, bt Yb rfl, bt Yb rfl⟩ (fun hHeld => ?_); clear hK K; refine YK (a' := ?_) ?_ ?_; rotate_left
    ·show Act.put _ (some 5) _ = _
     simp only [Act.put, List.setIfInBounds_toArray, List.set_cons_zero, List.set_cons_succ, XB, XK]
     rfl
    refine XbO (i := 5) (j := 6) (Ni := some 8) (Nj := some 9) Xh6 Xbb rfl rfl rfl rfl (Km HT_.out zb14) (by decide) (by decide) (fun K hK => ?_) (fun K hK => ?_)
    ·skip
     refine Jo Try.func140 zb14 rfl #[.slice JV Yd.length J9] (by rfl) rfl rfl zb0 ?_
     with_reducible refine (Xy.calls k _ _ Yd Gy _ ?side1 ?side2 A3.out).mono ?_
     (case side1 => exact zb91)
     (case side2 => exact Bg.out)
     rintro e w9 ⟨Ri, rfl, ho0, hb⟩; refine ⟨_, rfl, ?_⟩; have Nc := az (Kd.SG (Kd.Xcb ho0 (Kd.XpT zb38)) (Xr zb6)); replace U0 := az (Kd.WR zb38 (Kd.Xcc ho0) hb); replace Yb := bq Yb hb; replace ZP := bq ZP hb; replace HB := az (Xe zb6 hb)
     (try clear hb);(try clear hb2);(try clear hk);(try clear hi);(try clear ho0)
     refine hK.out _ _ ⟨bt Yb rfl, bt Yb rfl, bt Yb rfl, bt Yb rfl, bt Yb rfl⟩ (fun hHeld => ?_); clear hK K; refine YK (a' := ?_) ?_ ?_; rotate_left
     ·show Act.put _ (some 8) _ = _
      simp only [Act.put, List.setIfInBounds_toArray, List.set_cons_zero, List.set_cons_succ, XB, XK]
      rfl
     refine Vs (i := 6) (N := some 9) L9 rfl rfl (Zf HT_.out zb14) (by decide) (fun K hK => ?_)
     refine Kd.VC k41 _ 41 ?hg (N := 9) ?hd (xs := ([] : List (S41))) (inner := []) (ok := fun _ => True) (okp := fun _ => True) ?hr ?hp (fun _ hk => hk) trivial (Below.refl _ _) (Nat.le_refl _) (by simp) ?_; (case hd => rfl); (case hg => rfl); (case hr => exact zb22); (case hp => exact zb121)
     intro Rj w10 ho11 hb hg_ hnew_; clear hg_ hnew_
     (first | rw [← Ny1384.out] at ho11 | (simp only [Int.reduceToNat] at ho11; rw [← Ny1384.out] at ho11))
     replace U0 := az (Kd.Ph zb38 hb); replace Nc := az (Kd.Ph (by (with_reducible repeat (first | apply Kd.V9 | apply Kd.VA | apply Kd.Fb)); exact Nc.out) hb); have Nb := az (Kd.Ye ho11 (Xr zb6)); replace Yb := bq Yb hb; replace ZP := bq ZP hb; replace HB := az (Xe zb6 hb); clear hb ho11; refine hK.out _ _ ⟨bt Yb rfl, bt Yb rfl, bt Yb rfl, bt Yb rfl, bt Yb rfl⟩ (fun hHeld => ?_); clear hK K; refine YK (a' := ?_) ?_ ?_; rotate_left
     ·show Act.put _ (some 9) _ = _
      simp only [Act.put, List.setIfInBounds_toArray, List.set_cons_zero, List.set_cons_succ, XB, XK]
      rfl
     exact YK zb74 (hCont (Bh, Ri, Rj) _ ⟨hHeld, zb102, zb101, zb39, zb108, zb107, zb6⟩)
    ·skip
     refine Kd.VC k41 _ 41 ?hg (N := 9) ?hd (xs := ([] : List (S41))) (inner := []) (ok := fun _ => True) (okp := fun _ => True) ?hr ?hp (fun _ hk => hk) trivial (Below.refl _ _) (Nat.le_refl _) (by simp) ?_; (case hd => rfl); (case hg => rfl); (case hr => exact zb22); (case hp => exact zb121)
     intro Rj w9 ho10 hb hg_ hnew_; clear hg_ hnew_
     (first | rw [← Ny1384.out] at ho10 | (simp only [Int.reduceToNat] at ho10; rw [← Ny1384.out] at ho10))
     replace U0 := az (Kd.Ph zb38 hb); have Nb := az (Kd.Ye ho10 (Xr zb6)); replace Yb := bq Yb hb; replace ZP := bq ZP hb; replace HB := az (Xe zb6 hb); clear hb ho10; refine hK.out _ _ ⟨bt Yb rfl, bt Yb rfl, bt Yb rfl, bt Yb rfl, bt Yb rfl⟩ (fun hHeld => ?_); clear hK K; refine YK (a' := ?_) ?_ ?_; rotate_left
     ·show Act.put _ (some 9) _ = _
      simp only [Act.put, List.setIfInBounds_toArray, List.set_cons_zero, List.set_cons_succ, XB, XK]
      rfl
     refine Vs (i := 5) (N := some 8) L9 rfl rfl (Zf HT_.out zb14) (by decide) (fun K hK => ?_); refine Jo Try.func140 zb14 rfl #[.slice JV Yd.length J9] (by rfl) rfl rfl zb0 ?_
     with_reducible refine (Xy.calls k _ _ Yd Gy _ ?side1 ?side2 A3.out).mono ?_
     (case side1 => exact zb91)
     (case side2 => exact Bg.out)
     rintro e w11 ⟨Ri, rfl, ho0, hb⟩; refine ⟨_, rfl, ?_⟩; replace Nb := az (Kd.XA zb39 hb); have Nc := az (Kd.SG (Kd.Xcb ho0 (Kd.XpT zb38)) (Xr zb6)); replace U0 := az (Kd.WR zb38 (Kd.Xcc ho0) hb); replace Yb := bq Yb hb; replace ZP := bq ZP hb; replace HB := az (Xe zb6 hb)
     (try clear hb);(try clear hb2);(try clear hk);(try clear hi);(try clear ho0)
     refine hK.out _ _ ⟨bt Yb rfl, bt Yb rfl, bt Yb rfl, bt Yb rfl, bt Yb rfl⟩ (fun hHeld => ?_); clear hK K; refine YK (a' := ?_) ?_ ?_; rotate_left
     ·show Act.put _ (some 8) _ = _
      simp only [Act.put, List.setIfInBounds_toArray, List.set_cons_zero, List.set_cons_succ, XB, XK]
      rfl
     exact YK zb74 (hCont (Bh, Ri, Rj) _ ⟨hHeld, zb102, zb101, zb39, zb108, zb107, zb6⟩)
   ·skip
    refine Kd.VC k41 _ 41 ?hg (N := 9) ?hd (xs := ([] : List (S41))) (inner := []) (ok := fun _ => True) (okp := fun _ => True) ?hr ?hp (fun _ hk => hk) trivial (Below.refl _ _) (Nat.le_refl _) (by simp) ?_; (case hd => rfl); (case hg => rfl); (case hr => exact zb22); (case hp => exact zb121)
    intro Rj w8 ho9 hb hg_ hnew_; clear hg_ hnew_
    (first | rw [← Ny1384.out] at ho9 | (simp only [Int.reduceToNat] at ho9; rw [← Ny1384.out] at ho9))
    have Nb := az (Kd.Ye ho9 (Xr zb6)); replace Yb := bq Yb hb; replace ZP := bq ZP hb; replace HB := az (Xe zb6 hb); clear hb ho9; refine hK.out _ _ ⟨bt Yb rfl, bt Yb rfl, bt Yb rfl, bt Yb rfl, bt Yb rfl⟩ (fun hHeld => ?_); clear hK K; refine YK (a' := ?_) ?_ ?_; rotate_left
    ·show Act.put _ (some 9) _ = _
     simp only [Act.put, List.setIfInBounds_toArray, List.set_cons_zero, List.set_cons_succ, XB, XK]
     rfl
    refine Vs (i := 2) (N := some 5) Xbb rfl rfl (Zf HT_.out zb14) (by decide) (fun K hK => ?_); refine Jo Try.func140 zb14 rfl #[.slice JL Y1.length JM] (by rfl) rfl rfl zb0 ?_
    with_reducible refine (Xy.calls k _ _ Y1 U8 _ ?side1 ?side2 A2.out).mono ?_
    (case side1 => exact zb128)
    (case side2 => exact OQ.out)
    rintro e w10 ⟨Bh, rfl, ho0, hb⟩; refine ⟨_, rfl, ?_⟩; replace Nb := az (Kd.XA zb39 hb); have U0 := az (Kd.SG ho0 (Xr zb6)); replace Yb := bq Yb hb; replace ZP := bq ZP hb; replace HB := az (Xe zb6 hb)
    (try clear hb);(try clear hb2);(try clear hk);(try clear hi);(try clear ho0)
    refine hK.out _ _ ⟨bt Yb rfl, bt Yb rfl, bt Yb rfl, bt Yb rfl, bt Yb rfl⟩ (fun hHeld => ?_); clear hK K; refine YK (a' := ?_) ?_ ?_; rotate_left
    ·show Act.put _ (some 5) _ = _
     simp only [Act.put, List.setIfInBounds_toArray, List.set_cons_zero, List.set_cons_succ, XB, XK]
     rfl
    refine Vs (i := 5) (N := some 8) L9 rfl rfl (Zf HT_.out zb14) (by decide) (fun K hK => ?_); refine Jo Try.func140 zb14 rfl #[.slice JV Yd.length J9] (by rfl) rfl rfl zb0 ?_
    with_reducible refine (Xy.calls k _ _ Yd Gy _ ?side1 ?side2 A3.out).mono ?_
    (case side1 => exact zb91)
    (case side2 => exact Bg.out)
    rintro e w11 ⟨Ri, rfl, ho0, hb⟩; refine ⟨_, rfl, ?_⟩; replace Nb := az (Kd.XA zb39 hb); have Nc := az (Kd.SG (Kd.Xcb ho0 (Kd.XpT zb38)) (Xr zb6)); replace U0 := az (Kd.WR zb38 (Kd.Xcc ho0) hb); replace Yb := bq Yb hb; replace ZP := bq ZP hb; replace HB := az (Xe zb6 hb)
    (try clear hb);(try clear hb2);(try clear hk);(try clear hi);(try clear ho0)
    refine hK.out _ _ ⟨bt Yb rfl, bt Yb rfl, bt Yb rfl, bt Yb rfl, bt Yb rfl⟩ (fun hHeld => ?_); clear hK K; refine YK (a' := ?_) ?_ ?_; rotate_left
    ·show Act.put _ (some 8) _ = _
     simp only [Act.put, List.setIfInBounds_toArray, List.set_cons_zero, List.set_cons_succ, XB, XK]
     rfl
    exact YK zb74 (hCont (Bh, Ri, Rj) _ ⟨hHeld, zb102, zb101, zb39, zb108, zb107, zb6⟩)
  rintro ⟨Bh, Ri, Rj⟩ w12 ⟨hS_, h0_, h1_, h2_, h3_, h4_, h5_⟩
  have U0 : Aside0 (Kd.S k25 25 w12 w.heap.size (fun k_ => some k_ ≠ (Ri : Value).ownBlock) Bh U8) := ⟨h0_⟩
  have Nc : Aside0 (Kd.S k25 25 w12 w.heap.size (fun k_ => some k_ ≠ (Bh : Value).ownBlock) Ri Gy) := ⟨h1_⟩
  have Nb : Aside0 (Kd.R k41 41 w12 w.heap.size (fun _ => True) Rj Gg) := ⟨h2_⟩
  replace Yb : Aside0 (w12.heap[VW]? = some (.cells #[.slice JL Y1.length JM, .slice JV Yd.length J9, .slice Vi X9.length Vj, .int .i64 Yl, .bool Y6] 52 (0, 0))) := ⟨h3_⟩
  replace ZP : Aside0 (w12.heap[YS]? = some (.cells #[.slice none 0 0, .slice none 0 0, .slice none 0 0, .int .i64 0, .bool false] 52 (0, 0))) := ⟨h4_⟩
  replace HB : Aside0 (Below w.heap.size w w12) := ⟨h5_⟩
  clear h0_ h1_ h2_ h3_ h4_ h5_; have hHeld : w12.cell? ⟨VW, 0, none⟩ = some (.slice JL Y1.length JM) ∧ w12.cell? ⟨VW, 1, none⟩ = some (.slice JV Yd.length J9) ∧ w12.cell? ⟨VW, 2, none⟩ = some (.slice Vi X9.length Vj) ∧ w12.cell? ⟨VW, 3, none⟩ = some (.int .i64 Yl) ∧ w12.cell? ⟨VW, 4, none⟩ = some (.bool Y6) := hS_; refine YK (a' := ?_) ?_ ?_; rotate_left
  ·simp only [Tc, Act.put, List.setIfInBounds_toArray, List.set_cons_zero, List.set_cons_succ]
   rfl
  refine Vs (i := 9) (N := some 12) Xh7 rfl rfl (Zf HT_.out zb14) (by decide) (fun K hK => ?_); refine Kd.JJ k41 (w0 := w) w.heap.size (by rfl) (.tmp 9) (.tmp 11) 34 41 (.agg #[(.int .i64 0), (.int .i64 0), (.int .i64 0), (.int .i64 0), (.int .i64 0), (.int .i64 0), (.int .i64 0), (.int .i64 0)]) 64 rfl Try.underlying34 VN rfl (by decide) (by omega) Rj Gg X9 _ _ _ (fun _ => True) (fun _ => False) rfl rfl ?aO ?aR (fun _ _ h => h) (fun _ h => h.elim) ?aF ?aB ?aS ?aL ?_
  (case aR => exact zb61)
  (case aB => exact zb6)
  (case aF => exact zb135)
  (case aO => exact zb39)
  (case aS => exact (Xr zb6))
  (case aL => have := LMc4.out; omega)
  intro v1388 w13 ho hb hg hat; rw [← Ny1387.out] at ho; replace Yb := az (Ju (g := VW) (o := .cells #[.slice JL Y1.length JM, .slice JV Yd.length J9, .slice Vi X9.length Vj, .int .i64 Yl, .bool Y6] 52 (0, 0)) zb108 hg (Kd.JK Nb.out Yb.out (by decide))); replace ZP := az (Ju (g := YS) (o := .cells #[.slice none 0 0, .slice none 0 0, .slice none 0 0, .int .i64 0, .bool false] 52 (0, 0)) zb107 hg (Kd.JK Nb.out ZP.out (by decide))); replace U0 := az (Kd.XdO zb38 (Kd.Ug zb39) (by decide) hg); replace Nc := az (Kd.XdO (by (with_reducible repeat (first | apply Kd.V9 | apply Kd.VA | apply Kd.Fb)); exact Nc.out) (Kd.Ug zb39) (by decide) hg); replace HB := az (hb); have Xfe := az (ho); clear Nb ho hb hg hat; obtain ⟨Xec, Xed, eo14⟩ := Kd.Xx Xfe.out
  (first | subst eo14 | (injection eo14 with f1_ f2_ f3_; have f4_ := f1_.symm; have f5_ := f3_.symm; clear f1_ f2_ f3_; subst f4_; subst f5_))
  obtain ⟨Xee, Xef, eo15⟩ := Kd.XdP Nc.out
  (first | subst eo15 | (injection eo15 with f1_ f2_ f3_; have f4_ := f1_.symm; have f5_ := f3_.symm; clear f1_ f2_ f3_; subst f4_; subst f5_))
  obtain ⟨Xil, Xim, eo16⟩ := Kd.XdP U0.out
  (first | subst eo16 | (injection eo16 with f1_ f2_ f3_; have f4_ := f1_.symm; have f5_ := f3_.symm; clear f1_ f2_ f3_; subst f4_; subst f5_))
  refine hK.out _ _ ⟨bt Yb rfl, bt Yb rfl, bt Yb rfl, bt Yb rfl, bt Yb rfl⟩ (fun hHeld => ?_); clear hK K; refine YK (a' := ?_) ?_ ?_; rotate_left
  ·show Act.put _ (some 12) _ = _
   simp only [Act.put, List.setIfInBounds_toArray, List.set_cons_zero, List.set_cons_succ, XB, XK]
   rfl
  refine pu 14 17 Xh8 HT_ ?_; refine Vs (i := 15) (N := none) Xh9 rfl rfl (Zf HT_.out zb14) (by decide) (fun K hK => ?_); have hs17 : w13.cell? ⟨YS, 0, none⟩ = some (.slice none 0 0) := bt ZP rfl; have hfs17 := Xf ZP.out 0; have hns17_0 := Yi.out; have hms17_0 := Um.out; have hs18 : w13.cell? ⟨YS, 1, none⟩ = some (.slice none 0 0) := bt ZP rfl; have hfs18 := Xf ZP.out 1; have hns18_0 := Yi.out; have hms18_0 := Um.out; have hs19 : w13.cell? ⟨YS, 2, none⟩ = some (.slice none 0 0) := bt ZP rfl; have hfs19 := Xf ZP.out 2; have hns19_0 := Yi.out; have hms19_0 := Um.out; have hs20 : w13.cell? ⟨YS, 3, none⟩ = some (.int .i64 0) := bt ZP rfl; have hfs20 := Xf ZP.out 3; have hns20_0 := Yi.out; have hms20_0 := Um.out; have hs21 : w13.cell? ⟨YS, 4, none⟩ = some (.bool false) := bt ZP rfl; have hfs21 := Xf ZP.out 4; have hns21_0 := Yi.out; have hms21_0 := Um.out; refine M8 (w1 := ?_) (by rfl) rfl ?_ ?_; rotate_left
  ·go_simp
   rfl
  refine hK.out _ _ ⟨((cell_far (p := ⟨YS, _, none⟩) Yi.out _).trans (((cell_far (p := ⟨YS, _, none⟩) Yi.out _).trans (((cell_far (p := ⟨YS, _, none⟩) Yi.out _).trans (((cell_far (p := ⟨YS, _, none⟩) Yi.out _).trans (((cell_far (p := ⟨YS, _, none⟩) Yi.out _).trans (hHeld.1)))))))))), ((cell_far (p := ⟨YS, _, none⟩) Yi.out _).trans (((cell_far (p := ⟨YS, _, none⟩) Yi.out _).trans (((cell_far (p := ⟨YS, _, none⟩) Yi.out _).trans (((cell_far (p := ⟨YS, _, none⟩) Yi.out _).trans (((cell_far (p := ⟨YS, _, none⟩) Yi.out _).trans (hHeld.2.1)))))))))), ((cell_far (p := ⟨YS, _, none⟩) Yi.out _).trans (((cell_far (p := ⟨YS, _, none⟩) Yi.out _).trans (((cell_far (p := ⟨YS, _, none⟩) Yi.out _).trans (((cell_far (p := ⟨YS, _, none⟩) Yi.out _).trans (((cell_far (p := ⟨YS, _, none⟩) Yi.out _).trans (hHeld.2.2.1)))))))))), ((cell_far (p := ⟨YS, _, none⟩) Yi.out _).trans (((cell_far (p := ⟨YS, _, none⟩) Yi.out _).trans (((cell_far (p := ⟨YS, _, none⟩) Yi.out _).trans (((cell_far (p := ⟨YS, _, none⟩) Yi.out _).trans (((cell_far (p := ⟨YS, _, none⟩) Yi.out _).trans (hHeld.2.2.2.1)))))))))), ((cell_far (p := ⟨YS, _, none⟩) Yi.out _).trans (((cell_far (p := ⟨YS, _, none⟩) Yi.out _).trans (((cell_far (p := ⟨YS, _, none⟩) Yi.out _).trans (((cell_far (p := ⟨YS, _, none⟩) Yi.out _).trans (((cell_far (p := ⟨YS, _, none⟩) Yi.out _).trans (hHeld.2.2.2.2))))))))))⟩ (fun hHeld => ?_)
  clear hK K; refine J7 (JC HT_.out zb14) ?_
  try go_wp2
  refine bodyPost_ret (results_cell_row rfl _ _ YS 52 #[.slice Xil U8.length Xim, .slice Xee Gy.length Xef, .slice Xec Xak.length Xed, .int .i64 Yl, .bool Y6] (0, 0) _ rfl (by (with_reducible repeat (first | apply bn | apply bd | apply ba)); exact p5 ZP) Try.underlying52 rfl zb14) rfl ?_; exact ⟨_, _, _, zb8, by (with_reducible repeat (first | apply Kd.V9 | apply Kd.VA | apply Kd.Fb)); exact Kd.Kj (Kd.PO (p := ⟨YS, 4, none⟩) (Kd.PO (p := ⟨YS, 3, none⟩) (Kd.PO (p := ⟨YS, 2, none⟩) (Kd.PO (p := ⟨YS, 1, none⟩) (Kd.PO (p := ⟨YS, 0, none⟩) (Kd.XdQ U0.out ZP.out (by decide)) (fun _ hk => hk.2) (.slice Xil U8.length Xim)) (fun _ hk => hk.2) (.slice Xee Gy.length Xef)) (fun _ hk => hk.2) (.slice Xec Xak.length Xed)) (fun _ hk => hk.2) (.int .i64 Yl)) (fun _ hk => hk.2) (.bool Y6)) (fun _ hk => hk.1), by (with_reducible repeat (first | apply Kd.V9 | apply Kd.VA | apply Kd.Fb)); exact Kd.Kj (Kd.PO (p := ⟨YS, 4, none⟩) (Kd.PO (p := ⟨YS, 3, none⟩) (Kd.PO (p := ⟨YS, 2, none⟩) (Kd.PO (p := ⟨YS, 1, none⟩) (Kd.PO (p := ⟨YS, 0, none⟩) (Kd.XdQ Nc.out ZP.out (by decide)) (fun _ hk => hk.2) (.slice Xil U8.length Xim)) (fun _ hk => hk.2) (.slice Xee Gy.length Xef)) (fun _ hk => hk.2) (.slice Xec Xak.length Xed)) (fun _ hk => hk.2) (.int .i64 Yl)) (fun _ hk => hk.2) (.bool Y6)) (fun _ hk => hk.1), by (with_reducible repeat (first | apply Kd.Yf | apply Kd.Ym | apply Kd.Y3)); exact Kd.XY (Kd.Je (p := ⟨YS, 4, none⟩) (Kd.Je (p := ⟨YS, 3, none⟩) (Kd.Je (p := ⟨YS, 2, none⟩) (Kd.Je (p := ⟨YS, 1, none⟩) (Kd.Je (p := ⟨YS, 0, none⟩) (Kd.FE Xfe.out ZP.out (by decide)) (fun _ hk => hk.2) (.slice Xil U8.length Xim)) (fun _ hk => hk.2) (.slice Xee Gy.length Xef)) (fun _ hk => hk.2) (.slice Xec Xak.length Xed)) (fun _ hk => hk.2) (.int .i64 Yl)) (fun _ hk => hk.2) (.bool Y6)) (fun _ hk => trivial), zb6⟩
 ·rw [if_neg c4] at H
  exact absurd H (by simp)
end Go.Proofs.Ytcefiblpnegepaa.Pr
