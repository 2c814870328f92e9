import Derived.Test.YtcefiblpnegepaaQAByq
import Derived.Test.YtcefiblpnegepaaQASq
import Derived.Test.YtcefiblpnegepaaQAENew
import Derived.Test.YtcefiblpnegepaaQAL2
import Derived.Test.YtcefiblpnegepaaQAPrNeed
namespace Go.Proofs.Ytcefiblpnegepaa.Pr
open Go.RowKit Go.PW Go.PL Go.PM
attribute [local go_sem] YB YC Zc Zd Yn Yo YD YE
set_option linter.unusedVariables false
set_option linter.unusedSimpArgs false
def Gr (a0 a1 a2 a3 a4 a5 a6 a7 : Int) (D M : List S25) (L : List S41) (s : Int) (d : Bool) : Option (List S25 × List S25 × List S41 × Int × Bool × Bool) := if 0 ≤ a2 then (if a2 < (M.length : Int) then ((Dr.f (Xl M a2).f0 (Xl M a2).f1 (Xl M a2).f2 a0 a1 a2 a3 a4 a5 a6 a7 (L.length : Int)).bind fun x => some (D, M.set a2.toNat ⟨x.1, x.2.1, x.2.2⟩, L, s, d, true)) else none) else none
def XH.f (k : Nat) (Y1 : List (S25)) (Yd : List (S25)) (X9 : List (S41)) (Yl : Int) (Y6 : Bool) (Jd : Int) (Jq : Int) (YH : Int) (Yu : Int) (Zz : Int) (Jb : Int) (PT : Int) (Jw : Int) : Option ((List (S25)) × (List (S25)) × (List (S41)) × Int × Bool × Bool) := (Xn.f k X9 Jq).bind fun ZF => ((some (([] : List (S41)) : List (S41))).bind fun Pv => (if Pv.length + X9.length < 2199023255552 then ((some (Pv ++ X9 : List (S41))).bind fun Nf => ((some (([(⟨Jd, Jq, YH, Yu, Zz, Jb, ZF, Jw⟩ : S41)] : List (S41)) : List (S41))).bind fun Uk => (if Nf.length + Uk.length < 2199023255552 then ((some (Nf ++ Uk : List (S41))).bind fun Jr => ((X3.f k Jr).bind fun NN => (if (wrap64 ((Jr.length : Int) + NN)) > 150 then (some (Y1, Yd, X9, Yl, Y6, false)) else ((Zg.f Jd).bind fun NP => (if NP = true then (Gr Jd Jq YH Yu Zz Jb ZF Jw Y1 Yd Jr Yl Y6) else (some (Y1, Yd, Jr, Yl, Y6, true))))))) else (none)))) else (none)))
def XH.T2 : Bool × List (List Nat × List Nat) := (true, [([], []), ([], []), ([1], [1]), ([0, 2], [0, 2]), ([], []), ([4], [4]), ([3, 5, 3], [3, 5]), ([6, 6, 0, 1, 2, 3, 4, 5, 6], [6])])
def XH.B2 : List Nat := [0, 0, 2, 7, 0, 16, 63, 127]
theorem XH.XoZ : JI .any (opsOf Try.f153 2) = XH.T2 := by kernel_rfl
theorem XH.Xhs : Jn XH.T2.2 XH.B2 = true := by kernel_rfl
def XH.T7 : Bool × List (List Nat × List Nat) := (true, [([], []), ([0], [0]), ([], []), ([2], [2]), ([], []), ([4], [4]), ([], []), ([6], [6]), ([5, 7], [5, 7]), ([8], [8]), ([], []), ([], []), ([11], [11]), ([9, 10, 12], [9, 10, 12]), ([1, 3, 0, 1, 2, 3, 4, 5, 6, 7, 8, 9, 10, 11, 12, 13], [1, 3]), ([14, 13, 13, 0, 1, 2, 3, 4, 5, 6, 7, 8, 9, 10, 11, 12, 13], [13, 14])])
def XH.B7 : List Nat := [0, 1, 0, 4, 0, 16, 0, 64, 240, 496, 0, 0, 2048, 8176, 16383, 32767]
theorem XH.Xhm : JI .any (opsOf Try.f153 7) = XH.T7 := by kernel_rfl
theorem XH.XaT : Jn XH.T7.2 XH.B7 = true := by kernel_rfl
def XkH (w0 w : World) (PD PM : Nat → Prop) (v0 v1 u : Value) (r1 r2 : List S25) (r3 : List S41) (r4 : Int) (r5 r6 : Bool) (e : Ending) (w' : World) : Prop :=
 ∃ v2, e = .returned (.tuple #[.agg #[v0, v1, v2, .int .i64 r4, .bool r5], .bool r6]) ∧ Kd.R k25 25 w' w0.heap.size PD v0 r1 ∧ (∃ n, w.heap.size ≤ n ∧ Kd.R k25 25 w' w0.heap.size (fun j => PM j ∨ n ≤ j) v1 r2 ∧ Kd.R k41 41 w' w0.heap.size (fun j => some j = v2.ownBlock) v2 r3 ∧ (v2 = u ∨ ∀ j, some j = v2.ownBlock → w.heap.size ≤ j ∧ j < n)) ∧ Below w0.heap.size w0 w' ∧ Kept w w' (fun j => some j = u.ownBlock ∨ PM j)
set_option maxHeartbeats 8000000 in
set_option maxRecDepth 100000 in
theorem XH.calls (k : Nat) (P0_0_ P0_1_ P0_2_ : Nat → Prop) (v0 v1 Ml : Value) (Y1 Yd : List S25) (X9 : List S41) (Yl : Int) (Y6 : Bool) (Jd Jq YH Yu Zz Jb PT Jw : Int) (r1 r2 : List S25) (r3 : List S41) (r4 : Int) (r5 r6 : Bool) (w0 w : World) (hB : Below w0.heap.size w0 w)
 (hD : Kd.R k25 25 w w0.heap.size P0_0_ v0 Y1) (hM : Kd.R k25 25 w w0.heap.size P0_1_ v1 Yd) (ho0_2 : Kd.R k41 41 w w0.heap.size P0_2_ Ml X9) (hP2 : ∀ j, P0_2_ j → some j = Ml.ownBlock) (hPD : ∀ j, P0_0_ j → j < w.heap.size ∧ some j ≠ Ml.ownBlock) (hPM : ∀ j, P0_1_ j → j < w.heap.size ∧ some j ≠ Ml.ownBlock) (hDM : ∀ j, P0_0_ j → ¬ P0_1_ j)
 (h : XH.f k Y1 Yd X9 Yl Y6 Jd Jq YH Yu Zz Jb PT Jw = some (r1, r2, r3, r4, r5, r6)) :
 Calls Try.prog 153 #[.agg #[v0, v1, Ml, .int .i64 Yl, .bool Y6], .agg #[.int .i64 Jd, .int .i64 Jq, .int .i64 YH, .int .i64 Yu, .int .i64 Zz, .int .i64 Jb, .int .i64 PT, .int .i64 Jw]] w (XkH w0 w P0_0_ P0_1_ v0 v1 Ml r1 r2 r3 r4 r5 r6) := by
 obtain ⟨JL, JM, e0_⟩ := Kd.Xx hD; obtain ⟨JV, J9, e1_⟩ := Kd.Xx hM; subst e0_ e1_; have hs0_0 := Kd.VM (ok' := fun k_ => P0_0_ k_ ∧ some k_ ≠ (Ml : Value).ownBlock) (Kd.R_V (base' := w0.heap.size) hD) (fun j hj => ⟨hj, (hPD j hj).2⟩); have hs0_1 := Kd.VM (ok' := fun k_ => P0_1_ k_ ∧ some k_ ≠ (Ml : Value).ownBlock) (Kd.R_V (base' := w0.heap.size) hM) (fun j hj => ⟨hj, (hPM j hj).2⟩); have ED := az hD; have EM := az hM; have EL := az ho0_2; have ZD := az hPD; have ZM := az hPM; have ZL := az hP2; have ZDM := az hDM; clear hD hM hPD hPM hDM hP2; have hu52 := Try.underlying52; have hu41 := Try.underlying41; have Vz := az (show Kd.V k25 25 w w0.heap.size (fun k_ => ((P0_2_ k_ ∨ P0_0_ k_ ∨ P0_1_ k_) ∨ w.heap.size ≤ k_) ∧ some k_ ≠ (Ml : Value).ownBlock) (.slice JL Y1.length JM) Y1 from Kd.VM hs0_0 (fun k_ hk => ⟨.inl (.inr (.inl hk.1)), hk.2⟩)); have Vy := az (show Kd.V k25 25 w w0.heap.size (fun k_ => ((P0_2_ k_ ∨ P0_0_ k_ ∨ P0_1_ k_) ∨ w.heap.size ≤ k_) ∧ some k_ ≠ (Ml : Value).ownBlock) (.slice JV Yd.length J9) Yd from Kd.VM hs0_1 (fun k_ hk => ⟨.inl (.inr (.inr hk.1)), hk.2⟩)); have Vd := az (show Kd.R k41 41 w w0.heap.size (fun k_ => (P0_2_ k_ ∨ w.heap.size ≤ k_)) Ml X9 from Kd.XY ho0_2 (fun k_ hk => (.inl hk))); have HK := az (Kept.refl w (fun k_ => P0_2_ k_)); have HW0 := az hB.size; have HB := az hB; clear hB; have H : ((Xn.f k X9 Jq).bind fun ZF => ((some (([] : List (S41)) : List (S41))).bind fun Pv => (if Pv.length + X9.length < 2199023255552 then ((some (Pv ++ X9 : List (S41))).bind fun Nf => ((some (([(⟨Jd, Jq, YH, Yu, Zz, Jb, ZF, Jw⟩ : S41)] : List (S41)) : List (S41))).bind fun Uk => (if Nf.length + Uk.length < 2199023255552 then ((some (Nf ++ Uk : List (S41))).bind fun Jr => ((X3.f k Jr).bind fun NN => (if (wrap64 ((Jr.length : Int) + NN)) > 150 then (some (Y1, Yd, X9, Yl, Y6, false)) else ((Zg.f Jd).bind fun NP => (if NP = true then (Gr Jd Jq YH Yu Zz Jb ZF Jw Y1 Yd Jr Yl Y6) else (some (Y1, Yd, Jr, Yl, Y6, true))))))) else (none)))) else (none)))) = some (r1, r2, r3, r4, r5, r6) := h
 clear h; replace H := Option.bind_eq_some_iff.mp H; obtain ⟨ZF, A30, H⟩ := H; replace H : ((some (([] : List (S41)) : List (S41))).bind fun Pv => (if Pv.length + X9.length < 2199023255552 then ((some (Pv ++ X9 : List (S41))).bind fun Nf => ((some (([(⟨Jd, Jq, YH, Yu, Zz, Jb, ZF, Jw⟩ : S41)] : List (S41)) : List (S41))).bind fun Uk => (if Nf.length + Uk.length < 2199023255552 then ((some (Nf ++ Uk : List (S41))).bind fun Jr => ((X3.f k Jr).bind fun NN => (if (wrap64 ((Jr.length : Int) + NN)) > 150 then (some (Y1, Yd, X9, Yl, Y6, false)) else ((Zg.f Jd).bind fun NP => (if NP = true then (Gr Jd Jq YH Yu Zz Jb ZF Jw Y1 Yd Jr Yl Y6) else (some (Y1, Yd, Jr, Yl, Y6, true))))))) else (none)))) else (none))) = some (r1, r2, r3, r4, r5, r6) := H; have A3 := az A30; clear A30
 obtain ⟨Pv, hy299⟩ : ∃ y_ : List (S41), y_ = (([] : List (S41))) := ⟨_, rfl⟩
 replace H : (if Pv.length + X9.length < 2199023255552 then ((some (Pv ++ X9 : List (S41))).bind fun Nf => ((some (([(⟨Jd, Jq, YH, Yu, Zz, Jb, ZF, Jw⟩ : S41)] : List (S41)) : List (S41))).bind fun Uk => (if Nf.length + Uk.length < 2199023255552 then ((some (Nf ++ Uk : List (S41))).bind fun Jr => ((X3.f k Jr).bind fun NN => (if (wrap64 ((Jr.length : Int) + NN)) > 150 then (some (Y1, Yd, X9, Yl, Y6, false)) else ((Zg.f Jd).bind fun NP => (if NP = true then (Gr Jd Jq YH Yu Zz Jb ZF Jw Y1 Yd Jr Yl Y6) else (some (Y1, Yd, Jr, Yl, Y6, true))))))) else (none)))) else (none)) = some (r1, r2, r3, r4, r5, r6) := by first | (rw [hy299]; with_reducible exact H) | (have H2_ := (Option.bind_some _ _).symm.trans H; rw [hy299]; with_reducible exact H2_) | (have H2_ := (Option.bind_some _ _).symm.trans H; with_reducible exact H2_) | with_reducible exact H | (rw [hy299]; exact H) | exact H
 have Ny299 := az hy299; clear hy299
 by_cases c4 : Pv.length + X9.length < 2199023255552
 ·rw [if_pos c4] at H
  have LMc4 := az c4; clear c4
  obtain ⟨Nf, hy302⟩ : ∃ y_ : List (S41), y_ = (Pv ++ X9) := ⟨_, rfl⟩
  replace H : ((some (([(⟨Jd, Jq, YH, Yu, Zz, Jb, ZF, Jw⟩ : S41)] : List (S41)) : List (S41))).bind fun Uk => (if Nf.length + Uk.length < 2199023255552 then ((some (Nf ++ Uk : List (S41))).bind fun Jr => ((X3.f k Jr).bind fun NN => (if (wrap64 ((Jr.length : Int) + NN)) > 150 then (some (Y1, Yd, X9, Yl, Y6, false)) else ((Zg.f Jd).bind fun NP => (if NP = true then (Gr Jd Jq YH Yu Zz Jb ZF Jw Y1 Yd Jr Yl Y6) else (some (Y1, Yd, Jr, Yl, Y6, true))))))) else (none))) = some (r1, r2, r3, r4, r5, r6) := by first | (rw [hy302]; with_reducible exact H) | (have H2_ := (Option.bind_some _ _).symm.trans H; rw [hy302]; with_reducible exact H2_) | (have H2_ := (Option.bind_some _ _).symm.trans H; with_reducible exact H2_) | with_reducible exact H | (rw [hy302]; exact H) | exact H
  have Ny302 := az hy302; clear hy302
  obtain ⟨Uk, hy305⟩ : ∃ y_ : List (S41), y_ = (([(⟨Jd, Jq, YH, Yu, Zz, Jb, ZF, Jw⟩ : S41)] : List (S41))) := ⟨_, rfl⟩
  replace H : (if Nf.length + Uk.length < 2199023255552 then ((some (Nf ++ Uk : List (S41))).bind fun Jr => ((X3.f k Jr).bind fun NN => (if (wrap64 ((Jr.length : Int) + NN)) > 150 then (some (Y1, Yd, X9, Yl, Y6, false)) else ((Zg.f Jd).bind fun NP => (if NP = true then (Gr Jd Jq YH Yu Zz Jb ZF Jw Y1 Yd Jr Yl Y6) else (some (Y1, Yd, Jr, Yl, Y6, true))))))) else (none)) = some (r1, r2, r3, r4, r5, r6) := by first | (rw [hy305]; with_reducible exact H) | (have H2_ := (Option.bind_some _ _).symm.trans H; rw [hy305]; with_reducible exact H2_) | (have H2_ := (Option.bind_some _ _).symm.trans H; with_reducible exact H2_) | with_reducible exact H | (rw [hy305]; exact H) | exact H
  have Ny305 := az hy305; clear hy305
  by_cases c5 : Nf.length + Uk.length < 2199023255552
  ·rw [if_pos c5] at H
   have LMc5 := az c5; clear c5
   obtain ⟨Jr, hy308⟩ : ∃ y_ : List (S41), y_ = (Nf ++ Uk) := ⟨_, rfl⟩
   replace H : ((X3.f k Jr).bind fun NN => (if (wrap64 ((Jr.length : Int) + NN)) > 150 then (some (Y1, Yd, X9, Yl, Y6, false)) else ((Zg.f Jd).bind fun NP => (if NP = true then (Gr Jd Jq YH Yu Zz Jb ZF Jw Y1 Yd Jr Yl Y6) else (some (Y1, Yd, Jr, Yl, Y6, true)))))) = some (r1, r2, r3, r4, r5, r6) := by first | (rw [hy308]; with_reducible exact H) | (have H2_ := (Option.bind_some _ _).symm.trans H; rw [hy308]; with_reducible exact H2_) | (have H2_ := (Option.bind_some _ _).symm.trans H; with_reducible exact H2_) | with_reducible exact H | (rw [hy308]; exact H) | exact H
   have Ny308 := az hy308; clear hy308; replace H := Option.bind_eq_some_iff.mp H; obtain ⟨NN, A60, H⟩ := H; replace H : (if (wrap64 ((Jr.length : Int) + NN)) > 150 then (some (Y1, Yd, X9, Yl, Y6, false)) else ((Zg.f Jd).bind fun NP => (if NP = true then (Gr Jd Jq YH Yu Zz Jb ZF Jw Y1 Yd Jr Yl Y6) else (some (Y1, Yd, Jr, Yl, Y6, true))))) = some (r1, r2, r3, r4, r5, r6) := H; have A6 := az A60; clear A60; obtain ⟨Ao8, co8, eo8⟩ := Kd.Xx Vd.out; subst eo8
   go_enter Try.func153, Try.ntmps153
   try go_wp2_with (first | ((with_reducible refine XO (N := 2) rfl ?_); refine Y4 ?hg (N := 2) ?hd (cs := #[.slice JL Y1.length JM, .slice JV Yd.length J9, .slice Ao8 X9.length co8, .int .i64 Yl, .bool Y6]) (t := 52) ?hr ?_; (case hd => rfl); (case hg => rfl); (case hr => exact zb22); intro YR hg w9 hbox hb; replace Vd := az (Kd.XA zb21 hb); replace Vz := az (Kd.Pf (Kd.NK zb41 YR (Nat.le_of_eq hg.symm)) hb); replace Vy := az (Kd.Pf (Kd.NK zb40 YR (Nat.le_of_eq hg.symm)) hb); have Yt := az (hbox); have Xco := az ((by rw [hg]; exact (by first | exact HK.out.1 | exact (show Kept w _ (fun k_ => P0_2_ k_) from zb140).1) : w.heap.size ≤ YR)); replace HK := az (Kept.below (S := (fun k_ => P0_2_ k_)) zb140 hb); have Xqm := az ((zb148 : w0.heap.size ≤ YR)); replace HB := az (Xe zb1 hb); clear hb hbox hg) | ((with_reducible refine XO (N := 3) rfl ?_); refine Y4 ?hg (N := 3) ?hd (cs := #[.int .i64 Jd, .int .i64 Jq, .int .i64 YH, .int .i64 Yu, .int .i64 Zz, .int .i64 Jb, .int .i64 PT, .int .i64 Jw]) (t := 41) ?hr ?_; (case hd => rfl); (case hg => rfl); (case hr => exact zb22); intro XI hg w10 hbox hb; replace Vd := az (Kd.XA (Kd.Xht zb21 XI (Nat.le_of_eq hg.symm)) hb); replace Vz := az (Kd.Pf (Kd.NK zb41 XI (Nat.le_of_eq hg.symm)) hb); replace Vy := az (Kd.Pf (Kd.NK zb40 XI (Nat.le_of_eq hg.symm)) hb); have XM := az (hbox); have XlT := az ((by rw [hg]; exact (by first | exact HK.out.1 | exact (show Kept w _ (fun k_ => P0_2_ k_) from zb122).1) : w.heap.size ≤ XI)); replace HK := az (Kept.below (S := (fun k_ => P0_2_ k_)) zb122 hb); have GE296 := az ((by rw [hg]; exact (Xr zb6) : w0.heap.size ≤ XI)); replace HB := az (Xe zb6 hb); obtain ⟨OL, OM⟩ := nb Yt hg (fun h => by (with_reducible repeat (first | apply bn | apply bd | apply ba)); exact h); replace Yt := bb Yt (fun h => by (with_reducible repeat (first | apply bn | apply bd | apply ba)); exact h) hb; clear hb hbox hg) | ((with_reducible refine XO (N := 4) rfl ?_); refine Y4 ?hg (N := 4) ?hd (cs := #[.slice none 0 0, .slice none 0 0, .slice none 0 0, .int .i64 0, .bool false]) (t := 52) ?hr ?_; (case hd => rfl); (case hg => rfl); (case hr => exact zb22); intro Zm hg w11 hbox hb; replace Vd := az (Kd.XA zb21 hb); replace Vz := az (Kd.Pf (Kd.NK zb41 Zm (Nat.le_of_eq hg.symm)) hb); replace Vy := az (Kd.Pf (Kd.NK zb40 Zm (Nat.le_of_eq hg.symm)) hb); have Vt := az (hbox); have U6 := az ((by rw [hg]; exact (by first | exact HK.out.1 | exact (show Kept w _ (fun k_ => P0_2_ k_) from zb111).1) : w.heap.size ≤ Zm)); replace HK := az (Kept.below (S := (fun k_ => P0_2_ k_)) zb111 hb); have Mm := az ((by rw [hg]; exact (Xr zb6) : w0.heap.size ≤ Zm)); replace HB := az (Xe zb6 hb); obtain ⟨XdY, OO⟩ := nb Yt hg (fun h => by (with_reducible repeat (first | apply bn | apply bd | apply ba)); exact h); replace Yt := bb Yt (fun h => by (with_reducible repeat (first | apply bn | apply bd | apply ba)); exact h) hb; obtain ⟨XdZ, OP⟩ := nb XM hg (fun h => by (with_reducible repeat (first | apply bn | apply bd | apply ba)); exact h); replace XM := bb XM (fun h => by (with_reducible repeat (first | apply bn | apply bd | apply ba)); exact h) hb; clear hb hbox hg; have Xqn := OL.out; have Xqo := OM.out; have hnb13 := XdY.out; have hnc13 := OO.out; obtain ⟨IW, IX, IY, IZ, Qa⟩ := cz5 Yt; obtain ⟨Qb, Qc, Qd, Qe, Qf⟩ := fz5 Yt; have Xqp := XdZ.out; have Xqq := OP.out; obtain ⟨Xcs, Xct, Xcu, Xcv, Xcw, Xid, Xie, Xif⟩ := cz8 XM; obtain ⟨Xcx, Xcy, Xcz, Xc0, Xc1, Xig, Xih⟩ := fz7 XM; have Xii := Xf XM.out 7) | ((with_reducible refine Xg (f := 84) rfl ?_); refine Xz (some 11) rfl rfl Try.func84 zb14 rfl #[.slice Ao8 X9.length co8, .int .i64 Jq] rfl zb0 ?_; (with_reducible refine (Xn.calls k _ _ X9 Jq ZF _ ?side1 ?side2 A3.out).mono ?_); (case side1 => exact zb70); (case side2 => exact (Kd.Xk Vd.out).2.1); rintro e w' ⟨rfl, ⟨nd, rfl⟩⟩; refine ⟨_, rfl, ?_⟩; (try (rw [XbN w11]; generalize hq_ : World.drewN w11 _ = w11; have n0_ : Aside0 (Kd.V k25 25 w11 w0.heap.size (fun k_ => ((P0_2_ k_ ∨ P0_0_ k_ ∨ P0_1_ k_) ∨ w.heap.size ≤ k_) ∧ some k_ ≠ (.slice Ao8 X9.length co8 : Value).ownBlock ∧ k_ ≠ YR ∧ k_ ≠ XI ∧ k_ ≠ Zm) (.slice JL Y1.length JM) Y1) := ⟨by rw [← hq_]; exact (by (with_reducible repeat (first | apply Kd.VI | apply Kd.VJ | apply Kd.Du)); exact Kd.VM Vz.out (fun _ hk => ⟨hk.1.1.1.1, ⟨hk.1.1.1.2, ⟨hk.1.1.2, ⟨hk.1.2, hk.2⟩⟩⟩⟩))⟩; have n1_ : Aside0 (Kd.V k25 25 w11 w0.heap.size (fun k_ => ((P0_2_ k_ ∨ P0_0_ k_ ∨ P0_1_ k_) ∨ w.heap.size ≤ k_) ∧ some k_ ≠ (.slice Ao8 X9.length co8 : Value).ownBlock ∧ k_ ≠ YR ∧ k_ ≠ XI ∧ k_ ≠ Zm) (.slice JV Yd.length J9) Yd) := ⟨by rw [← hq_]; exact (by (with_reducible repeat (first | apply Kd.VI | apply Kd.VJ | apply Kd.Du)); exact Kd.VM Vy.out (fun _ hk => ⟨hk.1.1.1.1, ⟨hk.1.1.1.2, ⟨hk.1.1.2, ⟨hk.1.2, hk.2⟩⟩⟩⟩))⟩; have n2_ : Aside0 (Kd.R k41 41 w11 w0.heap.size (fun k_ => (P0_2_ k_ ∨ w.heap.size ≤ k_) ∧ k_ ≠ XI) (.slice Ao8 X9.length co8) X9) := ⟨by rw [← hq_]; exact zb21⟩; have n3_ : Aside0 (w11.heap[YR]? = some (.cells #[.slice JL Y1.length JM, .slice JV Yd.length J9, .slice Ao8 X9.length co8, .int .i64 Yl, .bool Y6] 52 (0, 0))) := ⟨by rw [← hq_]; exact zb53⟩; have n4_ : Aside0 (w11.heap[XI]? = some (.cells #[.int .i64 Jd, .int .i64 Jq, .int .i64 YH, .int .i64 Yu, .int .i64 Zz, .int .i64 Jb, .int .i64 PT, .int .i64 Jw] 41 (0, 0))) := ⟨by rw [← hq_]; exact zb28⟩; have n5_ : Aside0 (w11.heap[Zm]? = some (.cells #[.slice none 0 0, .slice none 0 0, .slice none 0 0, .int .i64 0, .bool false] 52 (0, 0))) := ⟨by rw [← hq_]; exact zb52⟩; have n6_ : Aside0 (Kept w w11 (fun k_ => P0_2_ k_)) := ⟨by rw [← hq_]; exact zb11⟩; have n7_ : Aside0 (Below w0.heap.size w0 w11) := ⟨by rw [← hq_]; exact zb6⟩; clear Vz Vy Vd Yt XM Vt HK HB hq_; have Vz := n0_; have Vy := n1_; have Vd := n2_; have Yt := n3_; have XM := n4_; have Vt := n5_; have HK := n6_; have HB := n7_; clear n0_ n1_ n2_ n3_ n4_ n5_ n6_ n7_; have hcw_ : w11.cell? ⟨XI, 6, none⟩ = some (.int .i64 PT) := bt XM rfl; have hfw_ := Xf XM.out 6))))
   have n0_ : Aside0 (Kd.R k41 41 (w11.setCell ⟨XI, 6, none⟩ (.int .i64 ZF)) w0.heap.size (fun k_ => (P0_2_ k_ ∨ w.heap.size ≤ k_) ∧ k_ ≠ XI) (.slice Ao8 X9.length co8) X9) := ⟨by (with_reducible repeat (first | apply Kd.Yf | apply Kd.Ym | apply Kd.Y3)); exact Kd.XY (Kd.Je (p := ⟨XI, 6, none⟩) (Kd.XY Vd.out (fun k_ hk => (⟨hk, hk.2⟩ : _ ∧ k_ ≠ XI))) (fun _ hk => hk.2) (.int .i64 ZF)) (fun _ hk => ⟨hk.1.1, hk.1.2⟩)⟩
   have n1_ : Aside0 (Kd.V k25 25 (w11.setCell ⟨XI, 6, none⟩ (.int .i64 ZF)) w0.heap.size (fun k_ => ((P0_2_ k_ ∨ P0_0_ k_ ∨ P0_1_ k_) ∨ w.heap.size ≤ k_) ∧ some k_ ≠ (.slice Ao8 X9.length co8 : Value).ownBlock ∧ k_ ≠ YR ∧ k_ ≠ XI ∧ k_ ≠ Zm) (.slice JL Y1.length JM) Y1) := ⟨by (with_reducible repeat (first | apply Kd.VI | apply Kd.VJ | apply Kd.Du)); exact Kd.VM (Kd.XmA (p := ⟨XI, 6, none⟩) (Kd.VM Vz.out (fun k_ hk => (⟨hk, hk.2.2.2.1⟩ : _ ∧ k_ ≠ XI))) (fun _ hk => hk.2) (.int .i64 ZF)) (fun _ hk => hk.1)⟩
   have n2_ : Aside0 (Kd.V k25 25 (w11.setCell ⟨XI, 6, none⟩ (.int .i64 ZF)) w0.heap.size (fun k_ => ((P0_2_ k_ ∨ P0_0_ k_ ∨ P0_1_ k_) ∨ w.heap.size ≤ k_) ∧ some k_ ≠ (.slice Ao8 X9.length co8 : Value).ownBlock ∧ k_ ≠ YR ∧ k_ ≠ XI ∧ k_ ≠ Zm) (.slice JV Yd.length J9) Yd) := ⟨by (with_reducible repeat (first | apply Kd.VI | apply Kd.VJ | apply Kd.Du)); exact Kd.VM (Kd.XmA (p := ⟨XI, 6, none⟩) (Kd.VM Vy.out (fun k_ hk => (⟨hk, hk.2.2.2.1⟩ : _ ∧ k_ ≠ XI))) (fun _ hk => hk.2) (.int .i64 ZF)) (fun _ hk => hk.1)⟩
   have n3_ : Aside0 ((w11.setCell ⟨XI, 6, none⟩ (.int .i64 ZF)).heap[YR]? = some (.cells #[.slice JL Y1.length JM, .slice JV Yd.length J9, .slice Ao8 X9.length co8, .int .i64 Yl, .bool Y6] 52 (0, 0))) := ⟨by (repeat (first | (with_reducible first | apply bn | apply bd | apply ba) | apply bf OL)); exact Yt.out⟩
   have n4_ : Aside0 ((w11.setCell ⟨XI, 6, none⟩ (.int .i64 ZF)).heap[XI]? = some (.cells #[.int .i64 Jd, .int .i64 Jq, .int .i64 YH, .int .i64 Yu, .int .i64 Zz, .int .i64 Jb, .int .i64 ZF, .int .i64 Jw] 41 (0, 0))) := ⟨by (with_reducible repeat (first | apply bn | apply bd | apply ba)); refine X5 (cs := #[.int .i64 Jd, .int .i64 Jq, .int .i64 YH, .int .i64 Yu, .int .i64 Zz, .int .i64 Jb, .int .i64 PT, .int .i64 Jw]) ?_ 6 _ rfl; (with_reducible repeat (first | apply bn | apply bd | apply ba)); exact XM.out⟩
   have n5_ : Aside0 ((w11.setCell ⟨XI, 6, none⟩ (.int .i64 ZF)).heap[Zm]? = some (.cells #[.slice none 0 0, .slice none 0 0, .slice none 0 0, .int .i64 0, .bool false] 52 (0, 0))) := ⟨by (repeat (first | (with_reducible first | apply bn | apply bd | apply ba) | apply bf OP)); exact Vt.out⟩
   have n6_ : Aside0 (Kept w (w11.setCell ⟨XI, 6, none⟩ (.int .i64 ZF)) (fun k_ => P0_2_ k_)) := ⟨zb11⟩
   have n7_ : Aside0 (Below w0.heap.size w0 (w11.setCell ⟨XI, 6, none⟩ (.int .i64 ZF))) := ⟨zb6⟩
   (try clear Vd)
   (try clear Vz)
   (try clear Vy)
   (try clear Yt)
   (try clear XM)
   (try clear Vt)
   (try clear HK)
   (try clear HB)
   generalize (w11.setCell ⟨XI, 6, none⟩ (.int .i64 ZF)) = w17 at n0_ n1_ n2_ n3_ n4_ n5_ n6_ n7_ ⊢; have Vd := n0_; have Vz := n1_; have Vy := n2_; have Yt := n3_; have XM := n4_; have Vt := n5_; have HK := n6_; have HB := n7_; clear n0_ n1_ n2_ n3_ n4_ n5_ n6_ n7_; replace Vd := az (Kd.Y3 Vd.out); replace Vz := az (Kd.Du Vz.out); replace Vy := az (Kd.Du Vy.out); replace Yt := az (XZ Yt.out); replace XM := az (XZ XM.out); replace Vt := az (XZ Vt.out); replace HK := az (Kept.drew HK.out); replace HB := az (wd HB.out); refine ZY (n := 8) (S := fun w' => w'.cell? ⟨YR, 0, none⟩ = some (.slice JL Y1.length JM) ∧ w'.cell? ⟨YR, 1, none⟩ = some (.slice JV Yd.length J9) ∧ w'.cell? ⟨YR, 2, none⟩ = some (.slice Ao8 X9.length co8) ∧ w'.cell? ⟨YR, 3, none⟩ = some (.int .i64 Yl) ∧ w'.cell? ⟨YR, 4, none⟩ = some (.bool Y6) ∧ w'.cell? ⟨XI, 0, none⟩ = some (.int .i64 Jd) ∧ w'.cell? ⟨XI, 1, none⟩ = some (.int .i64 Jq) ∧ w'.cell? ⟨XI, 2, none⟩ = some (.int .i64 YH) ∧ w'.cell? ⟨XI, 3, none⟩ = some (.int .i64 Yu) ∧ w'.cell? ⟨XI, 4, none⟩ = some (.int .i64 Zz) ∧ w'.cell? ⟨XI, 5, none⟩ = some (.int .i64 Jb) ∧ w'.cell? ⟨XI, 6, none⟩ = some (.int .i64 ZF) ∧ w'.cell? ⟨XI, 7, none⟩ = some (.int .i64 Jw)) (ds := []) #[false, false, false, false, false, false, false, false] zb14 rfl rfl ⟨bt Yt rfl, bt Yt rfl, bt Yt rfl, bt Yt rfl, bt Yt rfl, bt XM rfl, bt XM rfl, bt XM rfl, bt XM rfl, bt XM rfl, bt XM rfl, bt XM rfl, bt XM rfl⟩ (fun hHeld => ?_); refine Ja XH.XoZ XH.Xhs (fun HT_ HW_ => ?_)
   generalize w17.drew = w18 at Vd Vz Vy Yt XM Vt HK HB hHeld ⊢; refine MW (i := 1) (N := some 14) (v := ?_) (a' := ?_) #[false, true, false, false, false, false, false, false] rfl rfl (U3 HT_.out zb14) (fun _ _ _ h => h) (Or.inl ⟨by rfl, ?_⟩) ?_ ?_; rotate_left
   ·intro w'
    go_simp
    with_reducible rfl
   rotate_left
   ·simp only [Act.put, List.setIfInBounds_toArray, List.set_cons_zero, List.set_cons_succ, XB, XK]
    rfl
   refine NL (i := 2) (N := some 15) (v := ?_) (a' := ?_) #[false, true, true, false, false, false, false, false] rfl rfl (Gs HT_.out HW_.out zb14) (fun _ _ _ h => h) (Or.inl ⟨by rfl, ?_⟩) hHeld ?_ ?_; rotate_left
   ·rintro w' ⟨s0, s1, s2, s3, s4, s5, s6, s7, s8, s9, s10, s11, s12⟩
    go_simp
    with_reducible rfl
   rotate_left
   ·simp only [Act.put, List.setIfInBounds_toArray, List.set_cons_zero, List.set_cons_succ, XB, XK]
    rfl
   refine NL (i := 4) (N := some 17) (v := ?_) (a' := ?_) #[false, true, true, false, true, false, false, false] rfl rfl (Gs HT_.out HW_.out zb14) (fun _ _ _ h => h) (Or.inl ⟨by rfl, ?_⟩) hHeld ?_ ?_; rotate_left
   ·rintro w' ⟨s0, s1, s2, s3, s4, s5, s6, s7, s8, s9, s10, s11, s12⟩
    go_simp
    with_reducible rfl
   rotate_left
   ·simp only [Act.put, List.setIfInBounds_toArray, List.set_cons_zero, List.set_cons_succ, XB, XK]
    rfl
   refine XmB (σ := Value × Value × Value) 2 #[true, true, true, true, true, true, false, false] (fun s_ => [(13, s_.1), (16, s_.2.1), (18, s_.2.2)]) (fun s_ w' => (w'.cell? ⟨YR, 0, none⟩ = some (.slice JL Y1.length JM) ∧ w'.cell? ⟨YR, 1, none⟩ = some (.slice JV Yd.length J9) ∧ w'.cell? ⟨YR, 2, none⟩ = some (.slice Ao8 X9.length co8) ∧ w'.cell? ⟨YR, 3, none⟩ = some (.int .i64 Yl) ∧ w'.cell? ⟨YR, 4, none⟩ = some (.bool Y6) ∧ w'.cell? ⟨XI, 0, none⟩ = some (.int .i64 Jd) ∧ w'.cell? ⟨XI, 1, none⟩ = some (.int .i64 Jq) ∧ w'.cell? ⟨XI, 2, none⟩ = some (.int .i64 YH) ∧ w'.cell? ⟨XI, 3, none⟩ = some (.int .i64 Yu) ∧ w'.cell? ⟨XI, 4, none⟩ = some (.int .i64 Zz) ∧ w'.cell? ⟨XI, 5, none⟩ = some (.int .i64 Jb) ∧ w'.cell? ⟨XI, 6, none⟩ = some (.int .i64 ZF) ∧ w'.cell? ⟨XI, 7, none⟩ = some (.int .i64 Jw)) ∧ (Kd.V k25 25 w' w0.heap.size (fun k_ => ((P0_2_ k_ ∨ P0_0_ k_ ∨ P0_1_ k_) ∨ w.heap.size ≤ k_) ∧ some k_ ≠ (.slice Ao8 X9.length co8 : Value).ownBlock ∧ some k_ ≠ (s_.2.1 : Value).ownBlock ∧ some k_ ≠ (s_.2.2 : Value).ownBlock ∧ k_ ≠ YR ∧ k_ ≠ XI ∧ k_ ≠ Zm) (.slice JL Y1.length JM) Y1) ∧ (Kd.V k25 25 w' w0.heap.size (fun k_ => ((P0_2_ k_ ∨ P0_0_ k_ ∨ P0_1_ k_) ∨ w.heap.size ≤ k_) ∧ some k_ ≠ (.slice Ao8 X9.length co8 : Value).ownBlock ∧ some k_ ≠ (s_.2.1 : Value).ownBlock ∧ some k_ ≠ (s_.2.2 : Value).ownBlock ∧ k_ ≠ YR ∧ k_ ≠ XI ∧ k_ ≠ Zm) (.slice JV Yd.length J9) Yd) ∧ (Kd.R k41 41 w' w0.heap.size (fun k_ => (P0_2_ k_ ∨ w.heap.size ≤ k_) ∧ some k_ ≠ (s_.2.1 : Value).ownBlock ∧ some k_ ≠ (s_.2.2 : Value).ownBlock ∧ k_ ≠ XI) (.slice Ao8 X9.length co8) X9) ∧ (Kd.R k41 41 w' w0.heap.size (fun k_ => (P0_2_ k_ ∨ w.heap.size ≤ k_) ∧ some k_ ≠ (.slice Ao8 X9.length co8 : Value).ownBlock ∧ some k_ ≠ (s_.2.2 : Value).ownBlock ∧ k_ ≠ XI) s_.2.1 Nf) ∧ (Kd.R k41 41 w' w0.heap.size (fun k_ => (P0_2_ k_ ∨ w.heap.size ≤ k_) ∧ some k_ ≠ (.slice Ao8 X9.length co8 : Value).ownBlock ∧ some k_ ≠ (s_.2.1 : Value).ownBlock ∧ k_ ≠ XI) s_.2.2 Uk) ∧ (w'.heap[YR]? = some (.cells #[.slice JL Y1.length JM, .slice JV Yd.length J9, .slice Ao8 X9.length co8, .int .i64 Yl, .bool Y6] 52 (0, 0))) ∧ (w'.heap[XI]? = some (.cells #[.int .i64 Jd, .int .i64 Jq, .int .i64 YH, .int .i64 Yu, .int .i64 Zz, .int .i64 Jb, .int .i64 ZF, .int .i64 Jw] 41 (0, 0))) ∧ (w'.heap[Zm]? = some (.cells #[.slice none 0 0, .slice none 0 0, .slice none 0 0, .int .i64 0, .bool false] 52 (0, 0))) ∧ (Kept w w' (fun k_ => P0_2_ k_)) ∧ (Below w0.heap.size w0 w')) ?_ ?_
   rotate_left
   ·intro hCont
    refine XbO (i := 0) (j := 5) (Ni := some 13) (Nj := some 18) #[true, true, true, false, true, false, false, false] #[false, true, true, false, true, true, false, false] rfl rfl rfl rfl (Km HT_.out zb14) (by decide) (by decide) (fun K hK => ?_) (fun K hK => ?_)
    ·skip
     refine Kd.VC k41 _ 41 ?hg (N := 13) ?hd (xs := ([] : List (S41))) (inner := []) (ok := fun _ => True) (okp := fun _ => True) ?hr ?hp (fun _ hk => hk) trivial (Below.refl _ _) (Nat.le_refl _) (by simp) ?_; (case hd => rfl); (case hg => rfl); (case hr => exact zb22); (case hp => exact zb121)
     intro Xaj w19 ho20 hb hg_ hnew_; clear hg_ hnew_
     (first | rw [← Ny299.out] at ho20 | (simp only [Int.reduceToNat] at ho20; rw [← Ny299.out] at ho20))
     replace Vz := az (Kd.Fz zb41 (Kd.ZH ho20) hb); replace Vy := az (Kd.Fz zb40 (Kd.ZH ho20) hb); have Fs := az (Kd.Ye (Kd.EH (Kd.Dk (Kd.EJ (M := fun k_ => (P0_2_ k_ ∨ w.heap.size ≤ k_)) ho20 zb163 (fun k_ h_ => .inr h_)) (Kd.Fe zb21)) (g := XI) (o := .cells #[.int .i64 Jd, .int .i64 Jq, .int .i64 YH, .int .i64 Yu, .int .i64 Zz, .int .i64 Jb, .int .i64 ZF, .int .i64 Jw] 41 (0, 0)) zb28) (Xr zb6)); replace Vd := az (Kd.JZ zb21 (Kd.ZH ho20) hb); replace Yt := bb Yt (fun h => by (with_reducible repeat (first | apply bn | apply bd | apply ba)); exact h) hb; replace XM := bb XM (fun h => by (with_reducible repeat (first | apply bn | apply bd | apply ba)); exact h) hb; replace Vt := bb Vt (fun h => by (with_reducible repeat (first | apply bn | apply bd | apply ba)); exact h) hb; replace HK := az (Kept.below (S := (fun k_ => P0_2_ k_)) zb11 hb); replace HB := az (Xe zb6 hb); clear hb ho20; refine hK.out _ _ ⟨bt Yt rfl, bt Yt rfl, bt Yt rfl, bt Yt rfl, bt Yt rfl, bt XM rfl, bt XM rfl, bt XM rfl, bt XM rfl, bt XM rfl, bt XM rfl, bt XM rfl, bt XM rfl⟩ (fun hHeld => ?_); clear hK K; refine YK (a' := ?_) ?_ ?_; rotate_left
     ·show Act.put _ (some 13) _ = _
      simp only [Act.put, List.setIfInBounds_toArray, List.set_cons_zero, List.set_cons_succ, XB, XK]
      rfl
     refine XbO (i := 3) (j := 5) (Ni := some 16) (Nj := some 18) #[true, true, true, true, true, false, false, false] #[true, true, true, false, true, true, false, false] rfl rfl rfl rfl (Km HT_.out zb14) (by decide) (by decide) (fun K hK => ?_) (fun K hK => ?_)
     ·skip
      refine Kd.JJ k41 (w0 := w0) w0.heap.size (by rfl) (.tmp 13) (.tmp 15) 34 41 (.agg #[(.int .i64 0), (.int .i64 0), (.int .i64 0), (.int .i64 0), (.int .i64 0), (.int .i64 0), (.int .i64 0), (.int .i64 0)]) 64 rfl Try.underlying34 VN rfl (by decide) (by omega) Xaj Pv X9 _ _ _ (fun k_ => (P0_2_ k_ ∨ w.heap.size ≤ k_) ∧ some k_ ≠ (.slice Ao8 X9.length co8 : Value).ownBlock ∧ k_ ≠ XI) (fun _ => False) rfl rfl ?aO ?aR (fun _ _ h => h) (fun _ h => h.elim) ?aF ?aB ?aS ?aL ?_
      (case aR => exact zb70)
      (case aB => exact zb6)
      (case aF => exact (fun k_ hk => ⟨(.inr (Nat.le_trans zb163 hk)), Kd.fresh' (Kd.Fe zb21) k_ hk, Kd.XgY (g := XI) (o := .cells #[.int .i64 Jd, .int .i64 Jq, .int .i64 YH, .int .i64 Yu, .int .i64 Zz, .int .i64 Jb, .int .i64 ZF, .int .i64 Jw] 41 (0, 0)) zb28 k_ hk⟩))
      (case aO => exact (by (with_reducible repeat (first | apply Kd.Yf | apply Kd.Ym | apply Kd.Y3)); exact Kd.XY Fs.out (fun _ hk => ⟨hk.1.1.1, ⟨hk.1.2, hk.2⟩⟩)))
      (case aS => exact (Xr zb6))
      (case aL => have := LMc4.out; omega)
      intro RF w21 ho hb hg hat; rw [← Ny302.out] at ho; replace Vd := az (Kd.SC (ok := (fun k_ => (P0_2_ k_ ∨ w.heap.size ≤ k_) ∧ k_ ≠ XI)) zb21 hg hat); replace Vz := az (Kd.Uw (ok := (fun k_ => ((P0_2_ k_ ∨ P0_0_ k_ ∨ P0_1_ k_) ∨ w.heap.size ≤ k_) ∧ some k_ ≠ (.slice Ao8 X9.length co8 : Value).ownBlock ∧ k_ ≠ YR ∧ k_ ≠ XI ∧ k_ ≠ Zm)) zb41 hg hat); replace Vy := az (Kd.Uw (ok := (fun k_ => ((P0_2_ k_ ∨ P0_0_ k_ ∨ P0_1_ k_) ∨ w.heap.size ≤ k_) ∧ some k_ ≠ (.slice Ao8 X9.length co8 : Value).ownBlock ∧ k_ ≠ YR ∧ k_ ≠ XI ∧ k_ ≠ Zm)) zb40 hg hat); replace Yt := az (Ju (g := YR) (o := .cells #[.slice JL Y1.length JM, .slice JV Yd.length J9, .slice Ao8 X9.length co8, .int .i64 Yl, .bool Y6] 52 (0, 0)) zb53 hg (Kd.JK Fs.out Yt.out (by decide))); replace XM := az (Ju (g := XI) (o := .cells #[.int .i64 Jd, .int .i64 Jq, .int .i64 YH, .int .i64 Yu, .int .i64 Zz, .int .i64 Jb, .int .i64 ZF, .int .i64 Jw] 41 (0, 0)) zb28 hg (Kd.QO Fs.out (fun _ hk => hk.2))); replace Vt := az (Ju (g := Zm) (o := .cells #[.slice none 0 0, .slice none 0 0, .slice none 0 0, .int .i64 0, .bool false] 52 (0, 0)) zb52 hg (Kd.JK Fs.out Vt.out (by decide))); replace HB := az (hb); replace HK := az (Kept.Ux (S := (fun k_ => P0_2_ k_)) hg zb11 (fun k_ e_ => (Fs.out.1 k_ e_).1.1.1)); have Wl := az (ho); clear Fs; clear ho hb hg hat; refine hK.out _ _ ⟨bt Yt rfl, bt Yt rfl, bt Yt rfl, bt Yt rfl, bt Yt rfl, bt XM rfl, bt XM rfl, bt XM rfl, bt XM rfl, bt XM rfl, bt XM rfl, bt XM rfl, bt XM rfl⟩ (fun hHeld => ?_)
      clear hK K; refine YK (a' := ?_) ?_ ?_; rotate_left
      ·show Act.put _ (some 16) _ = _
       simp only [Act.put, List.setIfInBounds_toArray, List.set_cons_zero, List.set_cons_succ, XB, XK]
       rfl
      refine Vs (i := 5) (N := some 18) #[true, true, true, true, true, true, false, false] rfl rfl (Zf HT_.out zb14) (by decide) (fun K hK => ?_)
      refine Kd.VC k41 _ 41 ?hg (N := 18) ?hd (xs := ([(⟨Jd, Jq, YH, Yu, Zz, Jb, ZF, Jw⟩ : S41)] : List (S41))) (inner := [.int .i64 Jd, .int .i64 Jq, .int .i64 YH, .int .i64 Yu, .int .i64 Zz, .int .i64 Jb, .int .i64 ZF, .int .i64 Jw]) (ok := fun _ => True) (okp := fun _ => True) ?hr ?hp (fun _ hk => hk) trivial (Below.refl _ _) (Nat.le_refl _) (by simp) ?_; (case hd => rfl); (case hg => rfl); (case hr => exact zb22); (case hp => exact zb48)
      intro NQ w22 ho23 hb hg_ hnew_; clear hg_ hnew_
      (first | rw [← Ny305.out] at ho23 | (simp only [Int.reduceToNat] at ho23; rw [← Ny305.out] at ho23))
      replace Vz := az (Kd.Fz zb41 (Kd.ZH ho23) hb); replace Vy := az (Kd.Fz zb40 (Kd.ZH ho23) hb); have U7 := az (Kd.Ye (Kd.EH (Kd.Dk (Kd.Dk (Kd.EJ (M := fun k_ => (P0_2_ k_ ∨ w.heap.size ≤ k_)) ho23 zb163 (fun k_ h_ => .inr h_)) (Kd.Fe zb21)) (Kd.Fe zb79)) (g := XI) (o := .cells #[.int .i64 Jd, .int .i64 Jq, .int .i64 YH, .int .i64 Yu, .int .i64 Zz, .int .i64 Jb, .int .i64 ZF, .int .i64 Jw] 41 (0, 0)) zb28) (Xr zb6)); replace Vd := az (Kd.JZ zb21 (Kd.ZH ho23) hb); replace Wl := az (Kd.JZ zb79 (Kd.ZH ho23) hb); replace Yt := bb Yt (fun h => by (with_reducible repeat (first | apply bn | apply bd | apply ba)); exact h) hb; replace XM := bb XM (fun h => by (with_reducible repeat (first | apply bn | apply bd | apply ba)); exact h) hb; replace Vt := bb Vt (fun h => by (with_reducible repeat (first | apply bn | apply bd | apply ba)); exact h) hb; replace HK := az (Kept.below (S := (fun k_ => P0_2_ k_)) zb11 hb); replace HB := az (Xe zb6 hb); clear hb ho23; refine hK.out _ _ ⟨bt Yt rfl, bt Yt rfl, bt Yt rfl, bt Yt rfl, bt Yt rfl, bt XM rfl, bt XM rfl, bt XM rfl, bt XM rfl, bt XM rfl, bt XM rfl, bt XM rfl, bt XM rfl⟩ (fun hHeld => ?_); clear hK K; refine YK (a' := ?_) ?_ ?_; rotate_left
      ·show Act.put _ (some 18) _ = _
       simp only [Act.put, List.setIfInBounds_toArray, List.set_cons_zero, List.set_cons_succ, XB, XK]
       rfl
      exact YK zb74 (hCont (Xaj, RF, NQ) _ ⟨hHeld, (by (with_reducible repeat (first | apply Kd.VI | apply Kd.VJ | apply Kd.Du)); exact Kd.VM Vz.out (fun _ hk => ⟨hk.1.1.1, ⟨hk.1.1.2.1, ⟨hk.1.2, ⟨hk.2, ⟨hk.1.1.2.2.1, ⟨hk.1.1.2.2.2.1, hk.1.1.2.2.2.2⟩⟩⟩⟩⟩⟩)), (by (with_reducible repeat (first | apply Kd.VI | apply Kd.VJ | apply Kd.Du)); exact Kd.VM Vy.out (fun _ hk => ⟨hk.1.1.1, ⟨hk.1.1.2.1, ⟨hk.1.2, ⟨hk.2, ⟨hk.1.1.2.2.1, ⟨hk.1.1.2.2.2.1, hk.1.1.2.2.2.2⟩⟩⟩⟩⟩⟩)), (by (with_reducible repeat (first | apply Kd.Yf | apply Kd.Ym | apply Kd.Y3)); exact Kd.XY Vd.out (fun _ hk => ⟨hk.1.1.1, ⟨hk.1.2, ⟨hk.2, hk.1.1.2⟩⟩⟩)), (by (with_reducible repeat (first | apply Kd.Yf | apply Kd.Ym | apply Kd.Y3)); exact Kd.XY Wl.out (fun _ hk => ⟨hk.1.1, ⟨hk.1.2.1, ⟨hk.2, hk.1.2.2⟩⟩⟩)), (by (with_reducible repeat (first | apply Kd.Yf | apply Kd.Ym | apply Kd.Y3)); exact Kd.XY U7.out (fun _ hk => ⟨hk.1.1.1.1, ⟨hk.1.1.2, ⟨hk.1.2, hk.2⟩⟩⟩)), zb53, zb28, zb52, zb11, zb6⟩)
     ·skip
      refine Kd.VC k41 _ 41 ?hg (N := 18) ?hd (xs := ([(⟨Jd, Jq, YH, Yu, Zz, Jb, ZF, Jw⟩ : S41)] : List (S41))) (inner := [.int .i64 Jd, .int .i64 Jq, .int .i64 YH, .int .i64 Yu, .int .i64 Zz, .int .i64 Jb, .int .i64 ZF, .int .i64 Jw]) (ok := fun _ => True) (okp := fun _ => True) ?hr ?hp (fun _ hk => hk) trivial (Below.refl _ _) (Nat.le_refl _) (by simp) ?_; (case hd => rfl); (case hg => rfl); (case hr => exact zb22); (case hp => exact zb48)
      intro NQ w21 ho22 hb hg_ hnew_; clear hg_ hnew_
      (first | rw [← Ny305.out] at ho22 | (simp only [Int.reduceToNat] at ho22; rw [← Ny305.out] at ho22))
      replace Vz := az (Kd.Fz zb41 (Kd.ZH ho22) hb); replace Vy := az (Kd.Fz zb40 (Kd.ZH ho22) hb); have U7 := az (Kd.Ye (Kd.EH (Kd.Dk (Kd.Dk (Kd.EJ (M := fun k_ => (P0_2_ k_ ∨ w.heap.size ≤ k_)) ho22 zb163 (fun k_ h_ => .inr h_)) (Kd.Fe zb21)) (Kd.Fe (by (with_reducible repeat (first | apply Kd.Yf | apply Kd.Ym | apply Kd.Y3)); exact Fs.out))) (g := XI) (o := .cells #[.int .i64 Jd, .int .i64 Jq, .int .i64 YH, .int .i64 Yu, .int .i64 Zz, .int .i64 Jb, .int .i64 ZF, .int .i64 Jw] 41 (0, 0)) zb28) (Xr zb6)); replace Vd := az (Kd.JZ zb21 (Kd.ZH ho22) hb); replace Fs := az (Kd.JZ (by (with_reducible repeat (first | apply Kd.Yf | apply Kd.Ym | apply Kd.Y3)); exact Fs.out) (Kd.ZH ho22) hb); replace Yt := bb Yt (fun h => by (with_reducible repeat (first | apply bn | apply bd | apply ba)); exact h) hb; replace XM := bb XM (fun h => by (with_reducible repeat (first | apply bn | apply bd | apply ba)); exact h) hb; replace Vt := bb Vt (fun h => by (with_reducible repeat (first | apply bn | apply bd | apply ba)); exact h) hb; replace HK := az (Kept.below (S := (fun k_ => P0_2_ k_)) zb11 hb); replace HB := az (Xe zb6 hb); clear hb ho22; refine hK.out _ _ ⟨bt Yt rfl, bt Yt rfl, bt Yt rfl, bt Yt rfl, bt Yt rfl, bt XM rfl, bt XM rfl, bt XM rfl, bt XM rfl, bt XM rfl, bt XM rfl, bt XM rfl, bt XM rfl⟩ (fun hHeld => ?_); clear hK K; refine YK (a' := ?_) ?_ ?_; rotate_left
      ·show Act.put _ (some 18) _ = _
       simp only [Act.put, List.setIfInBounds_toArray, List.set_cons_zero, List.set_cons_succ, XB, XK]
       rfl
      refine Vs (i := 3) (N := some 16) #[true, true, true, true, true, true, false, false] rfl rfl (Zf HT_.out zb14) (by decide) (fun K hK => ?_); refine Kd.JJ k41 (w0 := w0) w0.heap.size (by rfl) (.tmp 13) (.tmp 15) 34 41 (.agg #[(.int .i64 0), (.int .i64 0), (.int .i64 0), (.int .i64 0), (.int .i64 0), (.int .i64 0), (.int .i64 0), (.int .i64 0)]) 64 rfl Try.underlying34 VN rfl (by decide) (by omega) Xaj Pv X9 _ _ _ (fun k_ => (P0_2_ k_ ∨ w.heap.size ≤ k_) ∧ some k_ ≠ (.slice Ao8 X9.length co8 : Value).ownBlock ∧ some k_ ≠ (NQ : Value).ownBlock ∧ k_ ≠ XI) (fun _ => False) rfl rfl ?aO ?aR (fun _ _ h => h) (fun _ h => h.elim) ?aF ?aB ?aS ?aL ?_
      (case aR => exact zb70)
      (case aB => exact zb6)
      (case aF => exact zb147)
      (case aO => exact (by (with_reducible repeat (first | apply Kd.Yf | apply Kd.Ym | apply Kd.Y3)); exact Kd.XY Fs.out (fun _ hk => ⟨hk.1.1.1.1, ⟨hk.1.1.2, ⟨hk.2, hk.1.2⟩⟩⟩)))
      (case aS => exact (Xr zb6))
      (case aL => have := LMc4.out; omega)
      intro RF w23 ho hb hg hat; rw [← Ny302.out] at ho; replace Vd := az (Kd.SC (ok := (fun k_ => (P0_2_ k_ ∨ w.heap.size ≤ k_) ∧ some k_ ≠ (NQ : Value).ownBlock ∧ k_ ≠ XI)) (by (with_reducible repeat (first | apply Kd.Yf | apply Kd.Ym | apply Kd.Y3)); exact Kd.XY Vd.out (fun _ hk => ⟨⟨hk.1.1.1, ⟨hk.2, hk.1.1.2⟩⟩, hk.1.2⟩)) hg hat); replace Vz := az (Kd.Uw (ok := (fun k_ => ((P0_2_ k_ ∨ P0_0_ k_ ∨ P0_1_ k_) ∨ w.heap.size ≤ k_) ∧ some k_ ≠ (.slice Ao8 X9.length co8 : Value).ownBlock ∧ some k_ ≠ (NQ : Value).ownBlock ∧ k_ ≠ YR ∧ k_ ≠ XI ∧ k_ ≠ Zm)) (by (with_reducible repeat (first | apply Kd.VI | apply Kd.VJ | apply Kd.Du)); exact Kd.VM Vz.out (fun _ hk => ⟨⟨hk.1.1.1, ⟨hk.1.1.2.1, ⟨hk.2, ⟨hk.1.1.2.2.1, ⟨hk.1.1.2.2.2.1, hk.1.1.2.2.2.2⟩⟩⟩⟩⟩, hk.1.2⟩)) hg hat); replace Vy := az (Kd.Uw (ok := (fun k_ => ((P0_2_ k_ ∨ P0_0_ k_ ∨ P0_1_ k_) ∨ w.heap.size ≤ k_) ∧ some k_ ≠ (.slice Ao8 X9.length co8 : Value).ownBlock ∧ some k_ ≠ (NQ : Value).ownBlock ∧ k_ ≠ YR ∧ k_ ≠ XI ∧ k_ ≠ Zm)) (by (with_reducible repeat (first | apply Kd.VI | apply Kd.VJ | apply Kd.Du)); exact Kd.VM Vy.out (fun _ hk => ⟨⟨hk.1.1.1, ⟨hk.1.1.2.1, ⟨hk.2, ⟨hk.1.1.2.2.1, ⟨hk.1.1.2.2.2.1, hk.1.1.2.2.2.2⟩⟩⟩⟩⟩, hk.1.2⟩)) hg hat); replace Yt := az (Ju (g := YR) (o := .cells #[.slice JL Y1.length JM, .slice JV Yd.length J9, .slice Ao8 X9.length co8, .int .i64 Yl, .bool Y6] 52 (0, 0)) zb53 hg (Kd.JK Fs.out Yt.out (by decide))); replace XM := az (Ju (g := XI) (o := .cells #[.int .i64 Jd, .int .i64 Jq, .int .i64 YH, .int .i64 Yu, .int .i64 Zz, .int .i64 Jb, .int .i64 ZF, .int .i64 Jw] 41 (0, 0)) zb28 hg (Kd.QO Fs.out (fun _ hk => hk.1.2)))
      replace Vt := az (Ju (g := Zm) (o := .cells #[.slice none 0 0, .slice none 0 0, .slice none 0 0, .int .i64 0, .bool false] 52 (0, 0)) zb52 hg (Kd.JK Fs.out Vt.out (by decide))); replace U7 := az (Kd.SC (ok := (fun k_ => (P0_2_ k_ ∨ w.heap.size ≤ k_) ∧ some k_ ≠ (.slice Ao8 X9.length co8 : Value).ownBlock ∧ k_ ≠ XI)) (by (with_reducible repeat (first | apply Kd.Yf | apply Kd.Ym | apply Kd.Y3)); exact Kd.XY U7.out (fun _ hk => ⟨⟨hk.1.1.1.1, ⟨hk.1.1.2, hk.2⟩⟩, hk.1.2⟩)) hg hat); replace HB := az (hb); replace HK := az (Kept.Ux (S := (fun k_ => P0_2_ k_)) hg zb11 (fun k_ e_ => (Fs.out.1 k_ e_).1.1.1.1)); have Wl := az (ho); clear Fs; clear ho hb hg hat; refine hK.out _ _ ⟨bt Yt rfl, bt Yt rfl, bt Yt rfl, bt Yt rfl, bt Yt rfl, bt XM rfl, bt XM rfl, bt XM rfl, bt XM rfl, bt XM rfl, bt XM rfl, bt XM rfl, bt XM rfl⟩ (fun hHeld => ?_); clear hK K; refine YK (a' := ?_) ?_ ?_; rotate_left
      ·show Act.put _ (some 16) _ = _
       simp only [Act.put, List.setIfInBounds_toArray, List.set_cons_zero, List.set_cons_succ, XB, XK]
       rfl
      exact YK zb74 (hCont (Xaj, RF, NQ) _ ⟨hHeld, zb105, zb104, zb119, zb79, zb118, zb53, zb28, zb52, zb11, zb6⟩)
    ·skip
     refine Kd.VC k41 _ 41 ?hg (N := 18) ?hd (xs := ([(⟨Jd, Jq, YH, Yu, Zz, Jb, ZF, Jw⟩ : S41)] : List (S41))) (inner := [.int .i64 Jd, .int .i64 Jq, .int .i64 YH, .int .i64 Yu, .int .i64 Zz, .int .i64 Jb, .int .i64 ZF, .int .i64 Jw]) (ok := fun _ => True) (okp := fun _ => True) ?hr ?hp (fun _ hk => hk) trivial (Below.refl _ _) (Nat.le_refl _) (by simp) ?_; (case hd => rfl); (case hg => rfl); (case hr => exact zb22); (case hp => exact zb48)
     intro NQ w19 ho20 hb hg_ hnew_; clear hg_ hnew_
     (first | rw [← Ny305.out] at ho20 | (simp only [Int.reduceToNat] at ho20; rw [← Ny305.out] at ho20))
     replace Vz := az (Kd.Fz zb41 (Kd.ZH ho20) hb); replace Vy := az (Kd.Fz zb40 (Kd.ZH ho20) hb); have U7 := az (Kd.Ye (Kd.EH (Kd.Dk (Kd.EJ (M := fun k_ => (P0_2_ k_ ∨ w.heap.size ≤ k_)) ho20 zb163 (fun k_ h_ => .inr h_)) (Kd.Fe zb21)) (g := XI) (o := .cells #[.int .i64 Jd, .int .i64 Jq, .int .i64 YH, .int .i64 Yu, .int .i64 Zz, .int .i64 Jb, .int .i64 ZF, .int .i64 Jw] 41 (0, 0)) zb28) (Xr zb6)); replace Vd := az (Kd.JZ zb21 (Kd.ZH ho20) hb); replace Yt := bb Yt (fun h => by (with_reducible repeat (first | apply bn | apply bd | apply ba)); exact h) hb; replace XM := bb XM (fun h => by (with_reducible repeat (first | apply bn | apply bd | apply ba)); exact h) hb; replace Vt := bb Vt (fun h => by (with_reducible repeat (first | apply bn | apply bd | apply ba)); exact h) hb; replace HK := az (Kept.below (S := (fun k_ => P0_2_ k_)) zb11 hb); replace HB := az (Xe zb6 hb); clear hb ho20; refine hK.out _ _ ⟨bt Yt rfl, bt Yt rfl, bt Yt rfl, bt Yt rfl, bt Yt rfl, bt XM rfl, bt XM rfl, bt XM rfl, bt XM rfl, bt XM rfl, bt XM rfl, bt XM rfl, bt XM rfl⟩ (fun hHeld => ?_); clear hK K; refine YK (a' := ?_) ?_ ?_; rotate_left
     ·show Act.put _ (some 18) _ = _
      simp only [Act.put, List.setIfInBounds_toArray, List.set_cons_zero, List.set_cons_succ, XB, XK]
      rfl
     refine Vs (i := 0) (N := some 13) #[true, true, true, false, true, true, false, false] rfl rfl (Zf HT_.out zb14) (by decide) (fun K hK => ?_)
     refine Kd.VC k41 _ 41 ?hg (N := 13) ?hd (xs := ([] : List (S41))) (inner := []) (ok := fun _ => True) (okp := fun _ => True) ?hr ?hp (fun _ hk => hk) trivial (Below.refl _ _) (Nat.le_refl _) (by simp) ?_; (case hd => rfl); (case hg => rfl); (case hr => exact zb22); (case hp => exact zb121)
     intro Xaj w21 ho22 hb hg_ hnew_; clear hg_ hnew_
     (first | rw [← Ny299.out] at ho22 | (simp only [Int.reduceToNat] at ho22; rw [← Ny299.out] at ho22))
     replace Vz := az (Kd.Fz zb41 (Kd.ZH ho22) hb); replace Vy := az (Kd.Fz zb40 (Kd.ZH ho22) hb); have Fs := az (Kd.Ye (Kd.EH (Kd.Dk (Kd.Dk (Kd.EJ (M := fun k_ => (P0_2_ k_ ∨ w.heap.size ≤ k_)) ho22 zb163 (fun k_ h_ => .inr h_)) (Kd.Fe zb21)) (Kd.Fe zb78)) (g := XI) (o := .cells #[.int .i64 Jd, .int .i64 Jq, .int .i64 YH, .int .i64 Yu, .int .i64 Zz, .int .i64 Jb, .int .i64 ZF, .int .i64 Jw] 41 (0, 0)) zb28) (Xr zb6)); replace Vd := az (Kd.JZ zb21 (Kd.ZH ho22) hb); replace U7 := az (Kd.JZ zb78 (Kd.ZH ho22) hb); replace Yt := bb Yt (fun h => by (with_reducible repeat (first | apply bn | apply bd | apply ba)); exact h) hb; replace XM := bb XM (fun h => by (with_reducible repeat (first | apply bn | apply bd | apply ba)); exact h) hb; replace Vt := bb Vt (fun h => by (with_reducible repeat (first | apply bn | apply bd | apply ba)); exact h) hb; replace HK := az (Kept.below (S := (fun k_ => P0_2_ k_)) zb11 hb); replace HB := az (Xe zb6 hb); clear hb ho22; refine hK.out _ _ ⟨bt Yt rfl, bt Yt rfl, bt Yt rfl, bt Yt rfl, bt Yt rfl, bt XM rfl, bt XM rfl, bt XM rfl, bt XM rfl, bt XM rfl, bt XM rfl, bt XM rfl, bt XM rfl⟩ (fun hHeld => ?_); clear hK K; refine YK (a' := ?_) ?_ ?_; rotate_left
     ·show Act.put _ (some 13) _ = _
      simp only [Act.put, List.setIfInBounds_toArray, List.set_cons_zero, List.set_cons_succ, XB, XK]
      rfl
     refine Vs (i := 3) (N := some 16) #[true, true, true, true, true, true, false, false] rfl rfl (Zf HT_.out zb14) (by decide) (fun K hK => ?_); refine Kd.JJ k41 (w0 := w0) w0.heap.size (by rfl) (.tmp 13) (.tmp 15) 34 41 (.agg #[(.int .i64 0), (.int .i64 0), (.int .i64 0), (.int .i64 0), (.int .i64 0), (.int .i64 0), (.int .i64 0), (.int .i64 0)]) 64 rfl Try.underlying34 VN rfl (by decide) (by omega) Xaj Pv X9 _ _ _ (fun k_ => (P0_2_ k_ ∨ w.heap.size ≤ k_) ∧ some k_ ≠ (.slice Ao8 X9.length co8 : Value).ownBlock ∧ some k_ ≠ (NQ : Value).ownBlock ∧ k_ ≠ XI) (fun _ => False) rfl rfl ?aO ?aR (fun _ _ h => h) (fun _ h => h.elim) ?aF ?aB ?aS ?aL ?_
     (case aR => exact zb70)
     (case aB => exact zb6)
     (case aF => exact zb147)
     (case aO => exact (by (with_reducible repeat (first | apply Kd.Yf | apply Kd.Ym | apply Kd.Y3)); exact Kd.XY Fs.out (fun _ hk => ⟨hk.1.1.1.1, ⟨hk.1.1.2, ⟨hk.1.2, hk.2⟩⟩⟩)))
     (case aS => exact (Xr zb6))
     (case aL => have := LMc4.out; omega)
     intro RF w23 ho hb hg hat; rw [← Ny302.out] at ho; replace Vd := az (Kd.SC (ok := (fun k_ => (P0_2_ k_ ∨ w.heap.size ≤ k_) ∧ some k_ ≠ (NQ : Value).ownBlock ∧ k_ ≠ XI)) (by (with_reducible repeat (first | apply Kd.Yf | apply Kd.Ym | apply Kd.Y3)); exact Kd.XY Vd.out (fun _ hk => ⟨⟨hk.1.1.1, ⟨hk.1.2, hk.1.1.2⟩⟩, hk.2⟩)) hg hat); replace Vz := az (Kd.Uw (ok := (fun k_ => ((P0_2_ k_ ∨ P0_0_ k_ ∨ P0_1_ k_) ∨ w.heap.size ≤ k_) ∧ some k_ ≠ (.slice Ao8 X9.length co8 : Value).ownBlock ∧ some k_ ≠ (NQ : Value).ownBlock ∧ k_ ≠ YR ∧ k_ ≠ XI ∧ k_ ≠ Zm)) (by (with_reducible repeat (first | apply Kd.VI | apply Kd.VJ | apply Kd.Du)); exact Kd.VM Vz.out (fun _ hk => ⟨⟨hk.1.1.1, ⟨hk.1.1.2.1, ⟨hk.1.2, ⟨hk.1.1.2.2.1, ⟨hk.1.1.2.2.2.1, hk.1.1.2.2.2.2⟩⟩⟩⟩⟩, hk.2⟩)) hg hat); replace Vy := az (Kd.Uw (ok := (fun k_ => ((P0_2_ k_ ∨ P0_0_ k_ ∨ P0_1_ k_) ∨ w.heap.size ≤ k_) ∧ some k_ ≠ (.slice Ao8 X9.length co8 : Value).ownBlock ∧ some k_ ≠ (NQ : Value).ownBlock ∧ k_ ≠ YR ∧ k_ ≠ XI ∧ k_ ≠ Zm)) (by (with_reducible repeat (first | apply Kd.VI | apply Kd.VJ | apply Kd.Du)); exact Kd.VM Vy.out (fun _ hk => ⟨⟨hk.1.1.1, ⟨hk.1.1.2.1, ⟨hk.1.2, ⟨hk.1.1.2.2.1, ⟨hk.1.1.2.2.2.1, hk.1.1.2.2.2.2⟩⟩⟩⟩⟩, hk.2⟩)) hg hat); replace Yt := az (Ju (g := YR) (o := .cells #[.slice JL Y1.length JM, .slice JV Yd.length J9, .slice Ao8 X9.length co8, .int .i64 Yl, .bool Y6] 52 (0, 0)) zb53 hg (Kd.JK Fs.out Yt.out (by decide))); replace XM := az (Ju (g := XI) (o := .cells #[.int .i64 Jd, .int .i64 Jq, .int .i64 YH, .int .i64 Yu, .int .i64 Zz, .int .i64 Jb, .int .i64 ZF, .int .i64 Jw] 41 (0, 0)) zb28 hg (Kd.QO Fs.out (fun _ hk => hk.2)))
     replace Vt := az (Ju (g := Zm) (o := .cells #[.slice none 0 0, .slice none 0 0, .slice none 0 0, .int .i64 0, .bool false] 52 (0, 0)) zb52 hg (Kd.JK Fs.out Vt.out (by decide))); replace U7 := az (Kd.SC (ok := (fun k_ => (P0_2_ k_ ∨ w.heap.size ≤ k_) ∧ some k_ ≠ (.slice Ao8 X9.length co8 : Value).ownBlock ∧ k_ ≠ XI)) (by (with_reducible repeat (first | apply Kd.Yf | apply Kd.Ym | apply Kd.Y3)); exact Kd.XY U7.out (fun _ hk => ⟨⟨hk.1.1.1.1, ⟨hk.1.1.2, hk.1.2⟩⟩, hk.2⟩)) hg hat); replace HB := az (hb); replace HK := az (Kept.Ux (S := (fun k_ => P0_2_ k_)) hg zb11 (fun k_ e_ => (Fs.out.1 k_ e_).1.1.1.1)); have Wl := az (ho); clear Fs; clear ho hb hg hat; refine hK.out _ _ ⟨bt Yt rfl, bt Yt rfl, bt Yt rfl, bt Yt rfl, bt Yt rfl, bt XM rfl, bt XM rfl, bt XM rfl, bt XM rfl, bt XM rfl, bt XM rfl, bt XM rfl, bt XM rfl⟩ (fun hHeld => ?_); clear hK K; refine YK (a' := ?_) ?_ ?_; rotate_left
     ·show Act.put _ (some 16) _ = _
      simp only [Act.put, List.setIfInBounds_toArray, List.set_cons_zero, List.set_cons_succ, XB, XK]
      rfl
     exact YK zb74 (hCont (Xaj, RF, NQ) _ ⟨hHeld, zb105, zb104, zb119, zb79, zb118, zb53, zb28, zb52, zb11, zb6⟩)
   rintro ⟨Xaj, RF, NQ⟩ w24 ⟨hS_, h0_, h1_, h2_, h3_, h4_, h5_, h6_, h7_, h8_, h9_⟩
   replace Vz : Aside0 (Kd.V k25 25 w24 w0.heap.size (fun k_ => ((P0_2_ k_ ∨ P0_0_ k_ ∨ P0_1_ k_) ∨ w.heap.size ≤ k_) ∧ some k_ ≠ (.slice Ao8 X9.length co8 : Value).ownBlock ∧ some k_ ≠ (RF : Value).ownBlock ∧ some k_ ≠ (NQ : Value).ownBlock ∧ k_ ≠ YR ∧ k_ ≠ XI ∧ k_ ≠ Zm) (.slice JL Y1.length JM) Y1) := ⟨h0_⟩
   replace Vy : Aside0 (Kd.V k25 25 w24 w0.heap.size (fun k_ => ((P0_2_ k_ ∨ P0_0_ k_ ∨ P0_1_ k_) ∨ w.heap.size ≤ k_) ∧ some k_ ≠ (.slice Ao8 X9.length co8 : Value).ownBlock ∧ some k_ ≠ (RF : Value).ownBlock ∧ some k_ ≠ (NQ : Value).ownBlock ∧ k_ ≠ YR ∧ k_ ≠ XI ∧ k_ ≠ Zm) (.slice JV Yd.length J9) Yd) := ⟨h1_⟩
   replace Vd : Aside0 (Kd.R k41 41 w24 w0.heap.size (fun k_ => (P0_2_ k_ ∨ w.heap.size ≤ k_) ∧ some k_ ≠ (RF : Value).ownBlock ∧ some k_ ≠ (NQ : Value).ownBlock ∧ k_ ≠ XI) (.slice Ao8 X9.length co8) X9) := ⟨h2_⟩
   have Wl : Aside0 (Kd.R k41 41 w24 w0.heap.size (fun k_ => (P0_2_ k_ ∨ w.heap.size ≤ k_) ∧ some k_ ≠ (.slice Ao8 X9.length co8 : Value).ownBlock ∧ some k_ ≠ (NQ : Value).ownBlock ∧ k_ ≠ XI) RF Nf) := ⟨h3_⟩
   have U7 : Aside0 (Kd.R k41 41 w24 w0.heap.size (fun k_ => (P0_2_ k_ ∨ w.heap.size ≤ k_) ∧ some k_ ≠ (.slice Ao8 X9.length co8 : Value).ownBlock ∧ some k_ ≠ (RF : Value).ownBlock ∧ k_ ≠ XI) NQ Uk) := ⟨h4_⟩
   replace Yt : Aside0 (w24.heap[YR]? = some (.cells #[.slice JL Y1.length JM, .slice JV Yd.length J9, .slice Ao8 X9.length co8, .int .i64 Yl, .bool Y6] 52 (0, 0))) := ⟨h5_⟩
   replace XM : Aside0 (w24.heap[XI]? = some (.cells #[.int .i64 Jd, .int .i64 Jq, .int .i64 YH, .int .i64 Yu, .int .i64 Zz, .int .i64 Jb, .int .i64 ZF, .int .i64 Jw] 41 (0, 0))) := ⟨h6_⟩
   replace Vt : Aside0 (w24.heap[Zm]? = some (.cells #[.slice none 0 0, .slice none 0 0, .slice none 0 0, .int .i64 0, .bool false] 52 (0, 0))) := ⟨h7_⟩
   replace HK : Aside0 (Kept w w24 (fun k_ => P0_2_ k_)) := ⟨h8_⟩
   replace HB : Aside0 (Below w0.heap.size w0 w24) := ⟨h9_⟩
   clear h0_ h1_ h2_ h3_ h4_ h5_ h6_ h7_ h8_ h9_; have hHeld : w24.cell? ⟨YR, 0, none⟩ = some (.slice JL Y1.length JM) ∧ w24.cell? ⟨YR, 1, none⟩ = some (.slice JV Yd.length J9) ∧ w24.cell? ⟨YR, 2, none⟩ = some (.slice Ao8 X9.length co8) ∧ w24.cell? ⟨YR, 3, none⟩ = some (.int .i64 Yl) ∧ w24.cell? ⟨YR, 4, none⟩ = some (.bool Y6) ∧ w24.cell? ⟨XI, 0, none⟩ = some (.int .i64 Jd) ∧ w24.cell? ⟨XI, 1, none⟩ = some (.int .i64 Jq) ∧ w24.cell? ⟨XI, 2, none⟩ = some (.int .i64 YH) ∧ w24.cell? ⟨XI, 3, none⟩ = some (.int .i64 Yu) ∧ w24.cell? ⟨XI, 4, none⟩ = some (.int .i64 Zz) ∧ w24.cell? ⟨XI, 5, none⟩ = some (.int .i64 Jb) ∧ w24.cell? ⟨XI, 6, none⟩ = some (.int .i64 ZF) ∧ w24.cell? ⟨XI, 7, none⟩ = some (.int .i64 Jw) := hS_; obtain ⟨Xij, Xik, eo26⟩ := Kd.Xx U7.out
   (first | subst eo26 | (injection eo26 with f1_ f2_ f3_; have f4_ := f1_.symm; have f5_ := f3_.symm; clear f1_ f2_ f3_; subst f4_; subst f5_))
   refine YK (a' := ?_) ?_ ?_; rotate_left
   ·simp only [Tc, Act.put, List.setIfInBounds_toArray, List.set_cons_zero, List.set_cons_succ]
    rfl
   refine Vs (i := 6) (N := some 19) #[true, true, true, true, true, true, true, false] rfl rfl (Zf HT_.out zb14) (by decide) (fun K hK => ?_); refine Kd.JJ k41 (w0 := w0) w0.heap.size (by rfl) (.tmp 16) (.tmp 18) 34 41 (.agg #[(.int .i64 0), (.int .i64 0), (.int .i64 0), (.int .i64 0), (.int .i64 0), (.int .i64 0), (.int .i64 0), (.int .i64 0)]) 64 rfl Try.underlying34 VN rfl (by decide) (by omega) RF Nf Uk _ _ _ (fun k_ => (P0_2_ k_ ∨ w.heap.size ≤ k_) ∧ some k_ ≠ (.slice Ao8 X9.length co8 : Value).ownBlock ∧ some k_ ≠ (.slice Xij Uk.length Xik : Value).ownBlock ∧ k_ ≠ XI) (fun _ => False) rfl rfl ?aO ?aR (fun _ _ h => h) (fun _ h => h.elim) ?aF ?aB ?aS ?aL ?_
   (case aR => repeat (first | exact (Kd.Xk U7.out).2.2 | (with_reducible refine Kd.Z0 ?_ _) | (with_reducible refine Kd.Z4 ?_ _) | (with_reducible refine Kd.Jt ?_)))
   (case aB => exact zb6)
   (case aF => exact zb147)
   (case aO => exact zb79)
   (case aS => exact (Xr zb6))
   (case aL => have := LMc5.out; omega)
   intro v309 w25 ho hb hg hat; rw [← Ny308.out] at ho; replace Vd := az (Kd.SC (ok := (fun k_ => (P0_2_ k_ ∨ w.heap.size ≤ k_) ∧ some k_ ≠ (.slice Xij Uk.length Xik : Value).ownBlock ∧ k_ ≠ XI)) (by (with_reducible repeat (first | apply Kd.Yf | apply Kd.Ym | apply Kd.Y3)); exact Kd.XY Vd.out (fun _ hk => ⟨⟨hk.1, ⟨hk.2.2.1, hk.2.2.2⟩⟩, hk.2.1⟩)) hg hat); replace Vz := az (Kd.Uw (ok := (fun k_ => ((P0_2_ k_ ∨ P0_0_ k_ ∨ P0_1_ k_) ∨ w.heap.size ≤ k_) ∧ some k_ ≠ (.slice Ao8 X9.length co8 : Value).ownBlock ∧ some k_ ≠ (.slice Xij Uk.length Xik : Value).ownBlock ∧ k_ ≠ YR ∧ k_ ≠ XI ∧ k_ ≠ Zm)) (by (with_reducible repeat (first | apply Kd.VI | apply Kd.VJ | apply Kd.Du)); exact Kd.VM Vz.out (fun _ hk => ⟨⟨hk.1, ⟨hk.2.1, ⟨hk.2.2.2.1, ⟨hk.2.2.2.2.1, ⟨hk.2.2.2.2.2.1, hk.2.2.2.2.2.2⟩⟩⟩⟩⟩, hk.2.2.1⟩)) hg hat); replace Vy := az (Kd.Uw (ok := (fun k_ => ((P0_2_ k_ ∨ P0_0_ k_ ∨ P0_1_ k_) ∨ w.heap.size ≤ k_) ∧ some k_ ≠ (.slice Ao8 X9.length co8 : Value).ownBlock ∧ some k_ ≠ (.slice Xij Uk.length Xik : Value).ownBlock ∧ k_ ≠ YR ∧ k_ ≠ XI ∧ k_ ≠ Zm)) (by (with_reducible repeat (first | apply Kd.VI | apply Kd.VJ | apply Kd.Du)); exact Kd.VM Vy.out (fun _ hk => ⟨⟨hk.1, ⟨hk.2.1, ⟨hk.2.2.2.1, ⟨hk.2.2.2.2.1, ⟨hk.2.2.2.2.2.1, hk.2.2.2.2.2.2⟩⟩⟩⟩⟩, hk.2.2.1⟩)) hg hat); replace Yt := az (Ju (g := YR) (o := .cells #[.slice JL Y1.length JM, .slice JV Yd.length J9, .slice Ao8 X9.length co8, .int .i64 Yl, .bool Y6] 52 (0, 0)) zb53 hg (Kd.JK Wl.out Yt.out (by decide)))
   replace XM := az (Ju (g := XI) (o := .cells #[.int .i64 Jd, .int .i64 Jq, .int .i64 YH, .int .i64 Yu, .int .i64 Zz, .int .i64 Jb, .int .i64 ZF, .int .i64 Jw] 41 (0, 0)) zb28 hg (Kd.QO Wl.out (fun _ hk => hk.2.2.2))); replace Vt := az (Ju (g := Zm) (o := .cells #[.slice none 0 0, .slice none 0 0, .slice none 0 0, .int .i64 0, .bool false] 52 (0, 0)) zb52 hg (Kd.JK Wl.out Vt.out (by decide))); replace U7 := az (Kd.SC (ok := (fun k_ => (P0_2_ k_ ∨ w.heap.size ≤ k_) ∧ some k_ ≠ (.slice Ao8 X9.length co8 : Value).ownBlock ∧ k_ ≠ XI)) (by (with_reducible repeat (first | apply Kd.Yf | apply Kd.Ym | apply Kd.Y3)); exact Kd.XY U7.out (fun _ hk => ⟨⟨hk.1, ⟨hk.2.1, hk.2.2.2⟩⟩, hk.2.2.1⟩)) hg hat); replace HB := az (hb); replace HK := az (Kept.Ux (S := (fun k_ => P0_2_ k_)) hg zb11 (fun k_ e_ => (Wl.out.1 k_ e_).1)); have Xc2 := az (ho); clear Wl; clear ho hb hg hat; refine hK.out _ _ ⟨bt Yt rfl, bt Yt rfl, bt Yt rfl, bt Yt rfl, bt Yt rfl, bt XM rfl, bt XM rfl, bt XM rfl, bt XM rfl, bt XM rfl, bt XM rfl, bt XM rfl, bt XM rfl⟩ (fun hHeld => ?_); clear hK K; refine YK (a' := ?_) ?_ ?_; rotate_left
   ·show Act.put _ (some 19) _ = _
    simp only [Act.put, List.setIfInBounds_toArray, List.set_cons_zero, List.set_cons_succ, XB, XK]
    rfl
   refine MW (i := 7) (N := some 6) (v := ?_) (a' := ?_) #[true, true, true, true, true, true, true, true] rfl rfl (U3 HT_.out zb14) (fun _ _ _ h => h) (Or.inl ⟨by rfl, ?_⟩) ?_ ?_; rotate_left
   ·intro w'
    go_simp
    with_reducible rfl
   rotate_left
   ·simp only [Act.put, List.setIfInBounds_toArray, List.set_cons_zero, List.set_cons_succ, XB, XK]
    rfl
   refine J7 (JC HT_.out zb14) ?_; obtain ⟨Ng, Nh, eo27⟩ := Kd.Xx Xc2.out; subst eo27; have FD := Kd.Ff ED.out HK.out (fun j hj hp => (ZD.out j hj).2 (ZL.out j hp)); have FM := Kd.Ff EM.out HK.out (fun j hj hp => (ZM.out j hj).2 (ZL.out j hp)); have FL := Kd.Uf rfl Vd.out; have FN := Kd.Uf rfl Xc2.out
   have ZN := az (show ∀ j, some j = (Value.slice Ng Jr.length Nh).ownBlock → w.heap.size ≤ j from fun j hj => by
    have h_ := Xc2.out.1 j hj.symm
    rcases h_.1 with h1_ | h1_
    ·exact absurd (ZL.out j h1_) h_.2.1
    ·exact h1_)
   refine QH (fun w' => Kd.R k25 25 w' w0.heap.size P0_0_ (.slice JL Y1.length JM) Y1 ∧ Kd.R k25 25 w' w0.heap.size P0_1_ (.slice JV Yd.length J9) Yd ∧ Kd.R k41 41 w' w0.heap.size (fun j => some j = (Value.slice Ao8 X9.length co8).ownBlock) (.slice Ao8 X9.length co8) X9 ∧ Kd.R k41 41 w' w0.heap.size (fun j => some j = (Value.slice Ng Jr.length Nh).ownBlock) (.slice Ng Jr.length Nh) Jr ∧ w'.heap[YR]? = some (.cells #[.slice JL Y1.length JM, .slice JV Yd.length J9, .slice Ao8 X9.length co8, .int .i64 Yl, .bool Y6] 52 (0, 0)) ∧ w'.heap[XI]? = some (.cells #[.int .i64 Jd, .int .i64 Jq, .int .i64 YH, .int .i64 Yu, .int .i64 Zz, .int .i64 Jb, .int .i64 ZF, .int .i64 Jw] 41 (0, 0)) ∧ w'.heap[Zm]? = some (.cells #[.slice none 0 0, .slice none 0 0, .slice none 0 0, .int .i64 0, .bool false] 52 (0, 0)) ∧ Kept w w' (fun k_ => P0_2_ k_) ∧ Below w0.heap.size w0 w') ⟨FD, FM, FL, FN, Yt.out, XM.out, Vt.out, HK.out, HB.out⟩ ?_; clear FD FM FL FN Vz Vy Vd U7 Xc2 Yt XM Vt HK HB hHeld hs0_0 hs0_1 ho0_2 ED EM EL hcw_ hfw_
   try clear IW IX IY IZ Qa Qb Qc Qd Qe Qf Xcs Xct Xcu Xcv Xcw Xid Xie Xif Xcx Xcy Xcz Xc0 Xc1 Xig Xih Xii
   rintro w1 ⟨hFD, hFM, hFL, hFN, hBE, hBR, hBQ, hHK, hHB⟩; have GD := az hFD; have GM := az hFM; have GL := az hFL; have GN := az hFN; have BE := az hBE; have BR := az hBR; have BQ := az hBQ; have HK := az hHK; have HB := az hHB; have H' := az H; clear hFD hFM hFL hFN hBE hBR hBQ hHK hHB H
   go_wp2_with fail
   refine (X3.calls k _ _ Jr NN _ (Kd.Xk GN.out).2.2 (Kd.Xk GN.out).2.1 A6.out).mono ?_; rintro e w2 ⟨rfl, hb⟩; have KD := az (Kd.XA GD.out hb); have KM := az (Kd.XA GM.out hb); have KL := az (Kd.XA GL.out hb); have KN := az (Kd.XA GN.out hb); have CE := az (ZJ BE.out hb); have CR := az (ZJ BR.out hb); have CQ := az (ZJ BQ.out hb); have LK := az (HK.out.below hb); have LB := az (Xe HB.out hb); clear hb GD GM GL GN BE BR BQ HK HB; have x0 : w2.cell? ⟨YR, 0, none⟩ = some (.slice JL Y1.length JM) := bt CE rfl; have x1 : w2.cell? ⟨YR, 1, none⟩ = some (.slice JV Yd.length J9) := bt CE rfl; have x2 : w2.cell? ⟨YR, 2, none⟩ = some (.slice Ao8 X9.length co8) := bt CE rfl; have x3 : w2.cell? ⟨YR, 3, none⟩ = some (.int .i64 Yl) := bt CE rfl; have x4 : w2.cell? ⟨YR, 4, none⟩ = some (.bool Y6) := bt CE rfl; have xf := Xf CE.out 2; have q0 : w2.cell? ⟨Zm, 0, none⟩ = some (.slice none 0 0) := bt CQ rfl; have q1 : w2.cell? ⟨Zm, 1, none⟩ = some (.slice none 0 0) := bt CQ rfl; have q2 : w2.cell? ⟨Zm, 2, none⟩ = some (.slice none 0 0) := bt CQ rfl; have q3 : w2.cell? ⟨Zm, 3, none⟩ = some (.int .i64 0) := bt CQ rfl; have q4 : w2.cell? ⟨Zm, 4, none⟩ = some (.bool false) := bt CQ rfl; have qf0 := Xf CQ.out 0; have qf1 := Xf CQ.out 1; have qf2 := Xf CQ.out 2; have qf3 := Xf CQ.out 3; have qf4 := Xf CQ.out 4; have H := H'.out; clear H'
   by_cases c7 : (wrap64 ((Jr.length : Int) + NN)) > 150
   ·rw [if_pos c7] at H
    have c7b0 : decide (150 < (wrap64 ((Jr.length : Int) + NN))) = true := decide_eq_true c7; clear c7; simp only [Option.some.injEq, Prod.mk.injEq] at H; obtain ⟨rfl, rfl, rfl, rfl, rfl, rfl⟩ := H
    go_wp2
    refine bodyPost_ret (v := .tuple #[.agg #[.slice JL Y1.length JM, .slice JV Yd.length J9, .slice Ao8 X9.length co8, .int .i64 Yl, .bool Y6], .bool false]) (by simp [results, Try.results153, go_sem, *]) rfl ⟨_, rfl, eR5 KD.out CQ.out (by decide), ⟨w.heap.size, Nat.le_refl _, Kd.XY (eR5 KM.out CQ.out (by decide)) (fun j hj => .inl hj), eR5 KL.out CQ.out (by decide), .inl rfl⟩, ?_, ?_⟩
    ·exact Xc (Xc (Xc (Xc (Xc LB.out Mm.out) Mm.out) Mm.out) Mm.out) Mm.out
    ·exact (((((LK.out.mono (fun j hj => .inl (ZL.out j hj))).setCell (p := ⟨Zm, 0, none⟩) (.inr U6.out) _).setCell (p := ⟨Zm, 1, none⟩) (.inr U6.out) _).setCell (p := ⟨Zm, 2, none⟩) (.inr U6.out) _).setCell (p := ⟨Zm, 3, none⟩) (.inr U6.out) _).setCell (p := ⟨Zm, 4, none⟩) (.inr U6.out) _
   ·rw [if_neg c7] at H
    have c7b0 : decide (150 < (wrap64 ((Jr.length : Int) + NN))) = false := decide_eq_false c7; clear c7; replace H := Option.bind_eq_some_iff.mp H; obtain ⟨NP, XeX, H⟩ := H; have A31 := az XeX; have H' := az H; clear XeX H; have y0 : w2.cell? ⟨XI, 0, none⟩ = some (.int .i64 Jd) := bt CR rfl; have y1 : w2.cell? ⟨XI, 1, none⟩ = some (.int .i64 Jq) := bt CR rfl; have y2 : w2.cell? ⟨XI, 2, none⟩ = some (.int .i64 YH) := bt CR rfl; have y3 : w2.cell? ⟨XI, 3, none⟩ = some (.int .i64 Yu) := bt CR rfl; have y4 : w2.cell? ⟨XI, 4, none⟩ = some (.int .i64 Zz) := bt CR rfl; have y5 : w2.cell? ⟨XI, 5, none⟩ = some (.int .i64 Jb) := bt CR rfl; have y6 : w2.cell? ⟨XI, 6, none⟩ = some (.int .i64 ZF) := bt CR rfl; have y7 : w2.cell? ⟨XI, 7, none⟩ = some (.int .i64 Jw) := bt CR rfl
    go_wp2_with fail
    refine (Zg.calls Jd NP _ A31.out).mono ?_; rintro e w3 ⟨rfl, nd, hw3⟩
    have hb : Below (w2.setCell ⟨YR, 2, none⟩ (.slice Ng Jr.length Nh)).heap.size (w2.setCell ⟨YR, 2, none⟩ (.slice Ng Jr.length Nh)) w3 := by rw [hw3]; exact XD (Below.refl _ _) nd
    clear hw3; have KD3 := az (Kd.XA (eR1 KD.out CE.out (by decide)) hb); have KM3 := az (Kd.XA (eR1 KM.out CE.out (by decide)) hb); have KN3 := az (Kd.XA (eR1 KN.out CE.out (by decide)) hb); have CE3 := az (ZJ (X5 CE.out 2 (.slice Ng Jr.length Nh) rfl) hb); have CR3 := az (ZJ (FH CR.out OM.out (.slice Ng Jr.length Nh)) hb); have CQ3 := az (ZJ (FH CQ.out OO.out (.slice Ng Jr.length Nh)) hb); have LK3 := az ((LK.out.setCell (p := ⟨YR, 2, none⟩) (.inr Xco.out) (.slice Ng Jr.length Nh)).below hb); have LB3 := az (Xe (Xc LB.out Xqm.out) hb); clear hb KD KM KL KN CE CR CQ LK LB x0 x1 x2 x3 x4 xf q0 q1 q2 q3 q4 qf0 qf1 qf2 qf3 qf4 y0 y1 y2 y3 y4 y5 y6 y7; have H := H'.out; clear H'; have hlt3 := az (Dv CQ3.out)
    by_cases c32 : NP = true
    rotate_left
    ·rw [if_neg c32] at H
     obtain rfl : NP = false := by simpa using c32
     clear c32; simp only [Option.some.injEq, Prod.mk.injEq] at H; obtain ⟨rfl, rfl, rfl, rfl, rfl, rfl⟩ := H; have x0 : w3.cell? ⟨YR, 0, none⟩ = some (.slice JL Y1.length JM) := bt CE3 rfl; have x1 : w3.cell? ⟨YR, 1, none⟩ = some (.slice JV Yd.length J9) := bt CE3 rfl; have x2 : w3.cell? ⟨YR, 2, none⟩ = some (.slice Ng Jr.length Nh) := bt CE3 rfl; have x3 : w3.cell? ⟨YR, 3, none⟩ = some (.int .i64 Yl) := bt CE3 rfl; have x4 : w3.cell? ⟨YR, 4, none⟩ = some (.bool Y6) := bt CE3 rfl; have q0 : w3.cell? ⟨Zm, 0, none⟩ = some (.slice none 0 0) := bt CQ3 rfl; have q1 : w3.cell? ⟨Zm, 1, none⟩ = some (.slice none 0 0) := bt CQ3 rfl; have q2 : w3.cell? ⟨Zm, 2, none⟩ = some (.slice none 0 0) := bt CQ3 rfl; have q3 : w3.cell? ⟨Zm, 3, none⟩ = some (.int .i64 0) := bt CQ3 rfl; have q4 : w3.cell? ⟨Zm, 4, none⟩ = some (.bool false) := bt CQ3 rfl; have qf0 := Xf CQ3.out 0; have qf1 := Xf CQ3.out 1; have qf2 := Xf CQ3.out 2; have qf3 := Xf CQ3.out 3; have qf4 := Xf CQ3.out 4
     go_wp2
     refine bodyPost_ret (v := .tuple #[.agg #[.slice JL Y1.length JM, .slice JV Yd.length J9, .slice Ng Jr.length Nh, .int .i64 Yl, .bool Y6], .bool true]) (by simp [results, Try.results153, go_sem, *]) rfl ⟨_, rfl, eR5 KD3.out CQ3.out (by decide), ⟨w3.heap.size, LK3.out.1, Kd.XY (eR5 KM3.out CQ3.out (by decide)) (fun j hj => .inl hj), eR5 KN3.out CQ3.out (by decide), .inr (fun j hj => ⟨ZN.out j hj, Kd.Fe KN3.out j hj.symm⟩)⟩, ?_, ?_⟩
     ·exact Xc (Xc (Xc (Xc (Xc LB3.out Mm.out) Mm.out) Mm.out) Mm.out) Mm.out
     ·exact (((((LK3.out.mono (fun j hj => .inl (ZL.out j hj))).setCell (p := ⟨Zm, 0, none⟩) (.inr U6.out) _).setCell (p := ⟨Zm, 1, none⟩) (.inr U6.out) _).setCell (p := ⟨Zm, 2, none⟩) (.inr U6.out) _).setCell (p := ⟨Zm, 3, none⟩) (.inr U6.out) _).setCell (p := ⟨Zm, 4, none⟩) (.inr U6.out) _
    ·subst c32
     have H2 : Gr Jd Jq YH Yu Zz Jb ZF Jw Y1 Yd Jr Yl Y6 = some (r1, r2, r3, r4, r5, r6) := by rw [if_pos rfl] at H; exact H
     clear H
     unfold Gr at H2
     by_cases c40 : 0 ≤ YH
     rotate_left
     ·rw [if_neg c40] at H2
      exact absurd H2 (by simp)
     rw [if_pos c40] at H2
     by_cases c41 : YH < (Yd.length : Int)
     rotate_left
     ·rw [if_neg c41] at H2
      exact absurd H2 (by simp)
     rw [if_pos c41] at H2; replace H2 := Option.bind_eq_some_iff.mp H2; obtain ⟨⟨d0, d1, d2⟩, A42, H2⟩ := H2; have AD := az A42; clear A42; simp only [Option.some.injEq, Prod.mk.injEq] at H2; obtain ⟨rfl, rfl, rfl, rfl, rfl, rfl⟩ := H2; obtain ⟨gm, cm, em, hgmb, hgml, hgmt⟩ := Kd.Nv KM3.out (by omega)
     (first | cases em | (injection em with ea_ en_ ec_; (first | subst ea_ | (injection ea_ with ea_; subst ea_)); subst ec_; clear en_))
     obtain ⟨ce, hcl, hM, hcc, hfr⟩ := Kd.FT KM3.out z25 YH c40 c41; obtain ⟨v2, rfl, hR⟩ := JS hM; obtain ⟨A2, c2, e2_⟩ := Kd.Xx hR
     change v2 = .slice A2 (Xl Yd YH).f2.length c2 at e2_
     subst e2_; have hg0 : w3.cell? ⟨gm, (YH : Int).toNat * 3, none⟩ = some (.int .i64 (Xl Yd YH).f0) := hcc 0 _ rfl; have hg1 : w3.cell? ⟨gm, (YH : Int).toNat * 3 + 1, none⟩ = some (.int .i64 (Xl Yd YH).f1) := hcc 1 _ rfl; have hg2 : w3.cell? ⟨gm, (YH : Int).toNat * 3 + 2, none⟩ = some (.slice A2 (Xl Yd YH).f2.length c2) := hcc 2 _ rfl; have hfg0 : w3.frozen? ⟨gm, (YH : Int).toNat * 3, none⟩ = false := hfr 0; have hfg1 : w3.frozen? ⟨gm, (YH : Int).toNat * 3 + 1, none⟩ = false := hfr 1; have hfg2 : w3.frozen? ⟨gm, (YH : Int).toNat * 3 + 2, none⟩ = false := hfr 2; have hlE : YR < w3.heap.size := Dv CE3.out; have hlR : XI < w3.heap.size := Dv CR3.out; have R2 := az (show Kd.R (Kd.int .i64) 3 w3 w0.heap.size _ (.slice A2 (Xl Yd YH).f2.length c2) (Xl Yd YH).f2 from hR); have Hcl := az hcl; clear hcl hM hcc hfr hR hgmt; have x1 : w3.cell? ⟨YR, 1, none⟩ = some (.slice (some ⟨gm, 0, none⟩) Yd.length J9) := bt CE3 rfl; have y0 : w3.cell? ⟨XI, 0, none⟩ = some (.int .i64 Jd) := bt CR3 rfl; have y1 : w3.cell? ⟨XI, 1, none⟩ = some (.int .i64 Jq) := bt CR3 rfl; have y2 : w3.cell? ⟨XI, 2, none⟩ = some (.int .i64 YH) := bt CR3 rfl; have y3 : w3.cell? ⟨XI, 3, none⟩ = some (.int .i64 Yu) := bt CR3 rfl; have y4 : w3.cell? ⟨XI, 4, none⟩ = some (.int .i64 Zz) := bt CR3 rfl; have y5 : w3.cell? ⟨XI, 5, none⟩ = some (.int .i64 Jb) := bt CR3 rfl; have y6 : w3.cell? ⟨XI, 6, none⟩ = some (.int .i64 ZF) := bt CR3 rfl; have y7 : w3.cell? ⟨XI, 7, none⟩ = some (.int .i64 Jw) := bt CR3 rfl; have P40 := az c40
     have P41 := az c41; have p5 := eq_true c40; have q5 := eq_true c41; clear c40 c41; have ZB := az (show w0.heap.size ≤ w3.heap.size from LB3.out.size); have LK3s := az (show w.heap.size ≤ w3.heap.size from LK3.out.1); have KNl := az (show ∀ j, some j = (Value.slice Ng Jr.length Nh).ownBlock → j < w3.heap.size from fun j hj => Kd.Fe KN3.out j hj.symm)
     go_wp2_with fail
     have KD4 := az (Kd.Y3 KD3.out); have KM4 := az (Kd.Y3 KM3.out); have KN4 := az (Kd.Y3 KN3.out); have CE4 := az (XZ CE3.out); have CR4 := az (XZ CR3.out); have CQ4 := az (XZ CQ3.out); have LK4 := az (Kept.drew LK3.out); have LB4 := az (wd LB3.out); have R24 := az (Kd.Y3 R2.out); have ZS := az (show w3.drew.heap.size = w3.heap.size from rfl); have g0 : w3.drew.cell? ⟨gm, (YH : Int).toNat * 3, none⟩ = some (.int .i64 (Xl Yd YH).f0) := hg0; have g1 : w3.drew.cell? ⟨gm, (YH : Int).toNat * 3 + 1, none⟩ = some (.int .i64 (Xl Yd YH).f1) := hg1; have g2 : w3.drew.cell? ⟨gm, (YH : Int).toNat * 3 + 2, none⟩ = some (.slice A2 (Xl Yd YH).f2.length c2) := hg2; clear KD3 KM3 KN3 CE3 CR3 CQ3 LK3 LB3 R2 hg0 hg1 hg2 x1 y0 y1 y2 y3 y4 y5 y6 y7 hfg0 hfg1 hfg2; refine ZY (n := 16) (S := fun w' => w'.cell? ⟨YR, 1, none⟩ = some (.slice (some ⟨gm, 0, none⟩) Yd.length J9) ∧ w'.cell? ⟨XI, 0, none⟩ = some (.int .i64 Jd) ∧ w'.cell? ⟨XI, 1, none⟩ = some (.int .i64 Jq) ∧ w'.cell? ⟨XI, 2, none⟩ = some (.int .i64 YH) ∧ w'.cell? ⟨XI, 3, none⟩ = some (.int .i64 Yu) ∧ w'.cell? ⟨XI, 4, none⟩ = some (.int .i64 Zz) ∧ w'.cell? ⟨XI, 5, none⟩ = some (.int .i64 Jb) ∧ w'.cell? ⟨XI, 6, none⟩ = some (.int .i64 ZF) ∧ w'.cell? ⟨XI, 7, none⟩ = some (.int .i64 Jw) ∧ w'.cell? ⟨gm, (YH : Int).toNat * 3, none⟩ = some (.int .i64 (Xl Yd YH).f0) ∧ w'.cell? ⟨gm, (YH : Int).toNat * 3 + 1, none⟩ = some (.int .i64 (Xl Yd YH).f1) ∧ w'.cell? ⟨gm, (YH : Int).toNat * 3 + 2, none⟩ = some (.slice A2 (Xl Yd YH).f2.length c2)) (ds := [15]) #[false, false, false, false, false, false, false, false, false, false, false, false, false, false, false, false] zb14 rfl rfl ⟨bt CE4 rfl, bt CR4 rfl, bt CR4 rfl, bt CR4 rfl, bt CR4 rfl, bt CR4 rfl, bt CR4 rfl, bt CR4 rfl, bt CR4 rfl, g0, g1, g2⟩ (fun hHeld => ?_); refine Ja XH.Xhm XH.XaT (fun HT_ HW_ => ?_)
     generalize w3.drew = w5 at KD4 KM4 KN4 CE4 CR4 CQ4 LK4 LB4 R24 ZS g0 g1 g2 hHeld ⊢; refine MW (i := 0) (N := some 32) (v := ?_) (a' := ?_) #[true, false, false, false, false, false, false, false, false, false, false, false, false, false, false, false] rfl rfl (U3 HT_.out zb14) (fun _ _ _ h => h) (Or.inl ⟨by rfl, ?_⟩) ?_ ?_; rotate_left
     ·intro w'
      go_simp
      with_reducible rfl
     rotate_left
     ·simp only [Act.put, List.setIfInBounds_toArray, List.set_cons_zero, List.set_cons_succ, XB, XK]
      rfl
     refine MW (i := 2) (N := some 34) (v := ?_) (a' := ?_) #[true, false, true, false, false, false, false, false, false, false, false, false, false, false, false, false] rfl rfl (U3 HT_.out zb14) (fun _ _ _ h => h) (Or.inl ⟨by rfl, ?_⟩) ?_ ?_; rotate_left
     ·intro w'
      go_simp
      with_reducible rfl
     rotate_left
     ·simp only [Act.put, List.setIfInBounds_toArray, List.set_cons_zero, List.set_cons_succ, XB, XK]
      rfl
     refine MW (i := 4) (N := some 36) (v := ?_) (a' := ?_) #[true, false, true, false, true, false, false, false, false, false, false, false, false, false, false, false] rfl rfl (U3 HT_.out zb14) (fun _ _ _ h => h) (Or.inl ⟨by rfl, ?_⟩) ?_ ?_; rotate_left
     ·intro w'
      go_simp
      with_reducible rfl
     rotate_left
     ·simp only [Act.put, List.setIfInBounds_toArray, List.set_cons_zero, List.set_cons_succ, XB, XK]
      rfl
     refine MW (i := 6) (N := some 38) (v := ?_) (a' := ?_) #[true, false, true, false, true, false, true, false, false, false, false, false, false, false, false, false] rfl rfl (U3 HT_.out zb14) (fun _ _ _ h => h) (Or.inl ⟨by rfl, ?_⟩) ?_ ?_; rotate_left
     ·intro w'
      go_simp
      with_reducible rfl
     rotate_left
     ·simp only [Act.put, List.setIfInBounds_toArray, List.set_cons_zero, List.set_cons_succ, XB, XK]
      rfl
     refine MW (i := 11) (N := some 43) (v := ?_) (a' := ?_) #[true, false, true, false, true, false, true, false, false, false, false, true, false, false, false, false] rfl rfl (U3 HT_.out zb14) (fun _ _ _ h => h) (Or.inl ⟨by rfl, ?_⟩) ?_ ?_; rotate_left
     ·intro w'
      go_simp
      with_reducible rfl
     rotate_left
     ·simp only [Act.put, List.setIfInBounds_toArray, List.set_cons_zero, List.set_cons_succ, XB, XK]
      rfl
     refine MW (i := 12) (N := some 44) (v := ?_) (a' := ?_) #[true, false, true, false, true, false, true, false, false, false, false, true, true, false, false, false] rfl rfl (U3 HT_.out zb14) (fun _ _ _ h => h) (Or.inl ⟨by rfl, ?_⟩) ?_ ?_; rotate_left
     ·intro w'
      go_simp
      with_reducible rfl
     rotate_left
     ·simp only [Act.put, List.setIfInBounds_toArray, List.set_cons_zero, List.set_cons_succ, XB, XK]
      rfl
     refine NL (i := 1) (N := some 33) (v := ?_) (a' := ?_) #[true, true, true, false, true, false, true, false, false, false, false, true, true, false, false, false] rfl rfl (Gs HT_.out HW_.out zb14) (fun _ _ _ h => h) (Or.inl ⟨by rfl, ?_⟩) hHeld ?_ ?_; rotate_left
     ·rintro w' ⟨s0, s1, s2, s3, s4, s5, s6, s7, s8, s9, s10, s11⟩
      go_simp
      with_reducible rfl
     rotate_left
     ·simp only [Act.put, List.setIfInBounds_toArray, List.set_cons_zero, List.set_cons_succ, XB, XK]
      rfl
     refine NL (i := 3) (N := some 35) (v := ?_) (a' := ?_) #[true, true, true, true, true, false, true, false, false, false, false, true, true, false, false, false] rfl rfl (Gs HT_.out HW_.out zb14) (fun _ _ _ h => h) (Or.inl ⟨by rfl, ?_⟩) hHeld ?_ ?_; rotate_left
     ·rintro w' ⟨s0, s1, s2, s3, s4, s5, s6, s7, s8, s9, s10, s11⟩
      go_simp
      with_reducible rfl
     rotate_left
     ·simp only [Act.put, List.setIfInBounds_toArray, List.set_cons_zero, List.set_cons_succ, XB, XK]
      rfl
     refine NL (i := 5) (N := some 37) (v := ?_) (a' := ?_) #[true, true, true, true, true, true, true, false, false, false, false, true, true, false, false, false] rfl rfl (Gs HT_.out HW_.out zb14) (fun _ _ _ h => h) (Or.inl ⟨by rfl, ?_⟩) hHeld ?_ ?_; rotate_left
     ·rintro w' ⟨s0, s1, s2, s3, s4, s5, s6, s7, s8, s9, s10, s11⟩
      go_simp
      with_reducible rfl
     rotate_left
     ·simp only [Act.put, List.setIfInBounds_toArray, List.set_cons_zero, List.set_cons_succ, XB, XK]
      rfl
     refine NL (i := 7) (N := some 39) (v := ?_) (a' := ?_) #[true, true, true, true, true, true, true, true, false, false, false, true, true, false, false, false] rfl rfl (Gs HT_.out HW_.out zb14) (fun _ _ _ h => h) (Or.inl ⟨by rfl, ?_⟩) hHeld ?_ ?_; rotate_left
     ·rintro w' ⟨s0, s1, s2, s3, s4, s5, s6, s7, s8, s9, s10, s11⟩
      go_simp
      with_reducible rfl
     rotate_left
     ·simp only [Act.put, List.setIfInBounds_toArray, List.set_cons_zero, List.set_cons_succ, XB, XK]
      rfl
     refine MW (i := 8) (N := some 40) (v := ?_) (a' := ?_) #[true, true, true, true, true, true, true, true, true, false, false, true, true, false, false, false] rfl rfl (U3 HT_.out zb14) (fun _ _ _ h => h) (Or.inl ⟨by rfl, ?_⟩) ?_ ?_; rotate_left
     ·intro w'
      go_simp
      with_reducible rfl
     rotate_left
     ·simp only [Act.put, List.setIfInBounds_toArray, List.set_cons_zero, List.set_cons_succ, XB, XK]
      rfl
     refine NL (i := 9) (N := some 41) (v := ?_) (a' := ?_) #[true, true, true, true, true, true, true, true, true, true, false, true, true, false, false, false] rfl rfl (Gs HT_.out HW_.out zb14) (fun _ _ _ h => h) (Or.inl ⟨by rfl, ?_⟩) hHeld ?_ ?_; rotate_left
     ·rintro w' ⟨s0, s1, s2, s3, s4, s5, s6, s7, s8, s9, s10, s11⟩
      go_simp
      with_reducible rfl
     rotate_left
     ·simp only [Act.put, List.setIfInBounds_toArray, List.set_cons_zero, List.set_cons_succ, XB, XK]
      rfl
     refine NL (i := 10) (N := some 42) (v := ?_) (a' := ?_) #[true, true, true, true, true, true, true, true, true, true, true, true, true, false, false, false] rfl rfl (Gs HT_.out HW_.out zb14) (fun _ _ _ h => h) (Or.inl ⟨by rfl, ?_⟩) hHeld ?_ ?_; rotate_left
     ·rintro w' ⟨s0, s1, s2, s3, s4, s5, s6, s7, s8, s9, s10, s11⟩
      go_simp
      with_reducible rfl
     rotate_left
     ·simp only [Act.put, List.setIfInBounds_toArray, List.set_cons_zero, List.set_cons_succ, XB, XK]
      rfl
     refine Vs (i := 13) (N := some 45) #[true, true, true, true, true, true, true, true, true, true, true, true, true, true, false, false] rfl rfl (Zf HT_.out zb14) (by decide) (fun K hK => ?_); refine Jo Try.func103 zb14 rfl #[.agg #[.int .i64 (Xl Yd YH).f0, .int .i64 (Xl Yd YH).f1, .slice A2 (Xl Yd YH).f2.length c2], .agg #[.int .i64 Jd, .int .i64 Jq, .int .i64 YH, .int .i64 Yu, .int .i64 Zz, .int .i64 Jb, .int .i64 ZF, .int .i64 Jw], .int .i64 (Jr.length : Int)] (by rfl) rfl rfl zb0 ?_
     with_reducible refine (Dr.calls (Xl Yd YH).f0 (Xl Yd YH).f1 A2 c2 (Xl Yd YH).f2 Jd Jq YH Yu Zz Jb ZF Jw (Jr.length : Int) d0 d1 d2 _ (Kd.Xk R24.out).2.2 (Kd.Xk R24.out).2.1 AD.out).mono ?_
     rintro e w6 ⟨v6, rfl, ho, hb⟩; have z0 := (hb.cell (p := ⟨gm, (YH : Int).toNat * 3, none⟩) (ZS.out ▸ hgml)).trans g0; have z1 := (hb.cell (p := ⟨gm, (YH : Int).toNat * 3 + 1, none⟩) (ZS.out ▸ hgml)).trans g1; have z2 := (hb.cell (p := ⟨gm, (YH : Int).toNat * 3 + 2, none⟩) (ZS.out ▸ hgml)).trans g2; refine ⟨_, rfl, ?_⟩; have KD6 := az (Kd.XA KD4.out hb); have KM6 := az (Kd.XA KM4.out hb); have KN6 := az (Kd.XA KN4.out hb); have CE6 := az (ZJ CE4.out hb); have CR6 := az (ZJ CR4.out hb); have CQ6 := az (ZJ CQ4.out hb); have LK6 := az (LK4.out.below hb); have LB6 := az (Xe LB4.out hb); have RV := az (Kd.Z5 ho); obtain ⟨A6_, c6_, e6_⟩ := Kd.Xx ho; subst e6_; clear ho hb KD4 KM4 KN4 CE4 CR4 CQ4 LK4 LB4 R24 g0 g1 g2; obtain ⟨ce, hcl, hM, hcc, hfr⟩ := Kd.FT KM6.out z25 YH P40.out P41.out; obtain ⟨v7, rfl, hR7⟩ := JS hM; clear hR7; have hf0 : w6.frozen? ⟨gm, (YH : Int).toNat * 3, none⟩ = false := hfr 0; have hf1 : w6.frozen? ⟨gm, (YH : Int).toNat * 3 + 1, none⟩ = false := hfr 1; have hf2 : w6.frozen? ⟨gm, (YH : Int).toNat * 3 + 2, none⟩ = false := hfr 2; have HP := Kd.XaU (Kd.XY KM6.out (ok' := fun j => P0_1_ j ∨ w3.heap.size ≤ j) (fun j hj => .inl hj)) YH P40.out P41.out (seg := [.int .i64 d0, .int .i64 d1, .slice A6_ d2.length c6_]) (j := 0) (okp := fun j => w3.heap.size ≤ j) hcl hcc (show 3 ≤ 3 from by decide) (x' := (⟨d0, d1, d2⟩ : S25)) (Pe _ _ _ (⟨d0, d1, d2⟩ : S25) (Kd.XY (Kd.Ye RV.out (by rw [ZS.out]; exact ZB.out)) (fun j hj => by have := hj.2.1; rw [ZS.out] at this; exact this))) (fun j hj => ⟨.inr hj, by have := hgml; omega⟩)
     have HQ := az HP.1; clear hcl hM hcc hfr HP; refine hK.out _ _ ⟨bt CE6 rfl, bt CR6 rfl, bt CR6 rfl, bt CR6 rfl, bt CR6 rfl, bt CR6 rfl, bt CR6 rfl, bt CR6 rfl, bt CR6 rfl, z0, z1, z2⟩ (fun hHeld => ?_); clear hK K; refine YK (a' := ?_) ?_ ?_; rotate_left
     ·show Act.put _ (some 45) _ = _
      simp only [Act.put, List.setIfInBounds_toArray, List.set_cons_zero, List.set_cons_succ, XB, XK]
      rfl
     refine MW (i := 14) (N := some 46) (v := ?_) (a' := ?_) #[true, true, true, true, true, true, true, true, true, true, true, true, true, true, true, false] rfl rfl (U3 HT_.out zb14) (fun _ _ _ h => h) (Or.inl ⟨by rfl, ?_⟩) ?_ ?_; rotate_left
     ·intro w'
      go_simp
      with_reducible rfl
     rotate_left
     ·simp only [Act.put, List.setIfInBounds_toArray, List.set_cons_zero, List.set_cons_succ, XB, XK]
      rfl
     refine Uv (i := 15) (N := none) #[true, true, true, true, true, true, true, true, true, true, true, true, true, true, true, true] rfl rfl (Zf HT_.out zb14) (by decide) (fun K hK => ?_); refine M8 (w1 := ?_) (by rfl) rfl ?_ ?_; rotate_left
     ·go_simp
      rfl
     refine hK.out _ _ ?_; clear hK K; refine J7 (JC HT_.out zb14) ?_; have hPg : P0_1_ gm := KM6.out.1 gm rfl; obtain ⟨cellsM, hcM⟩ := Kd.Ug KM6.out gm rfl
     have hneE : YR ≠ gm := fun e_ => Kd.JK KM6.out CE6.out (by decide) (by rw [e_]; rfl)
     have hneQ : Zm ≠ gm := fun e_ => Kd.JK KM6.out CQ6.out (by decide) (by rw [e_]; rfl)
     have FD := Kd.Je (p := ⟨gm, (YH : Int).toNat * 3 + 2, none⟩) (Kd.Je (p := ⟨gm, (YH : Int).toNat * 3 + 1, none⟩) (Kd.Je (p := ⟨gm, (YH : Int).toNat * 3, none⟩) KD6.out (fun j hj e_ => ZDM.out j hj (by rw [e_]; exact hPg)) (.int .i64 d0)) (fun j hj e_ => ZDM.out j hj (by rw [e_]; exact hPg)) (.int .i64 d1)) (fun j hj e_ => ZDM.out j hj (by rw [e_]; exact hPg)) (.slice A6_ d2.length c6_); have FN := Kd.XY (Kd.Je (p := ⟨gm, (YH : Int).toNat * 3 + 2, none⟩) (Kd.Je (p := ⟨gm, (YH : Int).toNat * 3 + 1, none⟩) (Kd.Je (p := ⟨gm, (YH : Int).toNat * 3, none⟩) (Kd.FE KN6.out hcM (by decide)) (fun _ hk => hk.2) (.int .i64 d0)) (fun _ hk => hk.2) (.int .i64 d1)) (fun _ hk => hk.2) (.slice A6_ d2.length c6_)) (ok' := fun j => some j = (Value.slice Ng Jr.length Nh).ownBlock) (fun _ hk => hk.1); refine QH (fun w' => Kd.R k25 25 w' w0.heap.size P0_0_ (.slice JL Y1.length JM) Y1 ∧ Kd.R k25 25 w' w0.heap.size (fun j => P0_1_ j ∨ w3.heap.size ≤ j) (.slice (some ⟨gm, 0, none⟩) Yd.length J9) (Yd.set YH.toNat ⟨d0, d1, d2⟩) ∧ Kd.R k41 41 w' w0.heap.size (fun j => some j = (Value.slice Ng Jr.length Nh).ownBlock) (.slice Ng Jr.length Nh) Jr ∧ w'.heap[YR]? = some (.cells #[.slice JL Y1.length JM, .slice (some ⟨gm, 0, none⟩) Yd.length J9, .slice Ng Jr.length Nh, .int .i64 Yl, .bool Y6] 52 (0, 0)) ∧ w'.heap[Zm]? = some (.cells #[.slice none 0 0, .slice none 0 0, .slice none 0 0, .int .i64 0, .bool false] 52 (0, 0)) ∧ Kept w w' (fun j => some j = (Value.slice Ao8 X9.length co8).ownBlock ∨ P0_1_ j) ∧ Below w0.heap.size w0 w') ⟨FD, HQ.out, FN, FH (FH (FH CE6.out hneE _) hneE _) hneE _, FH (FH (FH CQ6.out hneQ _) hneQ _) hneQ _, (((LK6.out.mono (fun j hj => .inl (ZL.out j hj))).setCell (p := ⟨gm, (YH : Int).toNat * 3, none⟩) (.inl (.inr hPg)) _).setCell (p := ⟨gm, (YH : Int).toNat * 3 + 1, none⟩) (.inl (.inr hPg)) _).setCell (p := ⟨gm, (YH : Int).toNat * 3 + 2, none⟩) (.inl (.inr hPg)) _, Xc (Xc (Xc LB6.out hgmb) hgmb) hgmb⟩ ?_
     have hw3 := az (Nat.le_trans LK3s.out (Nat.le_refl _)); have hn3 := az (show ∀ j, some j = (Value.slice Ng Jr.length Nh).ownBlock → j < w3.heap.size from fun j hj => KNl.out j hj); clear FD FN HQ KD6 KM6 KN6 CE6 CR6 CQ6 LK6 LB6 RV hf0 hf1 hf2 z0 z1 z2; rintro w7 ⟨hFD, hFM, hFN, hBE, hBQ, hHK, hHB⟩; have GD := az hFD; have GM := az hFM; have GN := az hFN; have BE := az hBE; have BQ := az hBQ; have LK7 := az hHK; have LB7 := az hHB; clear hFD hFM hFN hBE hBQ hHK hHB; have x0 : w7.cell? ⟨YR, 0, none⟩ = some (.slice JL Y1.length JM) := bt BE rfl; have x1 : w7.cell? ⟨YR, 1, none⟩ = some (.slice (some ⟨gm, 0, none⟩) Yd.length J9) := bt BE rfl; have x2 : w7.cell? ⟨YR, 2, none⟩ = some (.slice Ng Jr.length Nh) := bt BE rfl; have x3 : w7.cell? ⟨YR, 3, none⟩ = some (.int .i64 Yl) := bt BE rfl; have x4 : w7.cell? ⟨YR, 4, none⟩ = some (.bool Y6) := bt BE rfl; have q0 : w7.cell? ⟨Zm, 0, none⟩ = some (.slice none 0 0) := bt BQ rfl; have q1 : w7.cell? ⟨Zm, 1, none⟩ = some (.slice none 0 0) := bt BQ rfl; have q2 : w7.cell? ⟨Zm, 2, none⟩ = some (.slice none 0 0) := bt BQ rfl; have q3 : w7.cell? ⟨Zm, 3, none⟩ = some (.int .i64 0) := bt BQ rfl; have q4 : w7.cell? ⟨Zm, 4, none⟩ = some (.bool false) := bt BQ rfl; have qf0 := Xf BQ.out 0; have qf1 := Xf BQ.out 1; have qf2 := Xf BQ.out 2; have qf3 := Xf BQ.out 3; have qf4 := Xf BQ.out 4
     go_wp2
     refine bodyPost_ret (v := .tuple #[.agg #[.slice JL Y1.length JM, .slice (some ⟨gm, 0, none⟩) Yd.length J9, .slice Ng Jr.length Nh, .int .i64 Yl, .bool Y6], .bool true]) (by simp [results, Try.results153, go_sem, *]) rfl ⟨_, rfl, eR5 GD.out BQ.out (by decide), ⟨w3.heap.size, hw3.out, eR5 GM.out BQ.out (by decide), eR5 GN.out BQ.out (by decide), .inr (fun j hj => ⟨ZN.out j hj, hn3.out j hj⟩)⟩, ?_, ?_⟩
     ·exact Xc (Xc (Xc (Xc (Xc LB7.out Mm.out) Mm.out) Mm.out) Mm.out) Mm.out
     ·exact ((((LK7.out.setCell (p := ⟨Zm, 0, none⟩) (.inr U6.out) _).setCell (p := ⟨Zm, 1, none⟩) (.inr U6.out) _).setCell (p := ⟨Zm, 2, none⟩) (.inr U6.out) _).setCell (p := ⟨Zm, 3, none⟩) (.inr U6.out) _).setCell (p := ⟨Zm, 4, none⟩) (.inr U6.out) _
  ·rw [if_neg c5] at H
   exact absurd H (by simp)
 ·rw [if_neg c4] at H
  exact absurd H (by simp)
theorem XH.to (k : Nat) (PD PM : Nat → Prop) (v0 v1 v2 : Value) (Y1 Yd : List S25) (X9 : List S41) (Yl : Int) (Y6 : Bool) (Jd Jq YH Yu Zz Jb PT Jw : Int) (r1 r2 : List S25) (r3 : List S41) (r4 : Int) (r5 r6 : Bool) (w0 w : World) (hB : Below w0.heap.size w0 w) (hE : VH w0 w PD PM v0 v1 v2 Y1 Yd X9)
 (h : XH.f k Y1 Yd X9 Yl Y6 Jd Jq YH Yu Zz Jb PT Jw = some (r1, r2, r3, r4, r5, r6)) :
 Calls Try.prog 153 #[.agg #[v0, v1, v2, .int .i64 Yl, .bool Y6], .agg #[.int .i64 Jd, .int .i64 Jq, .int .i64 YH, .int .i64 Yu, .int .i64 Zz, .int .i64 Jb, .int .i64 PT, .int .i64 Jw]] w fun e w' => ∃ A0 c0 A1 c1 A2 c2, e = .returned (.tuple #[.agg #[.slice A0 r1.length c0, .slice A1 r2.length c1, .slice A2 r3.length c2, .int .i64 r4, .bool r5], .bool r6]) ∧ XdA w0 w (PE PD PM v2) w' (.slice A0 r1.length c0) (.slice A1 r2.length c1) (.slice A2 r3.length c2) r1 r2 r3 := by
 refine (XH.calls k PD PM _ v0 v1 v2 Y1 Yd X9 Yl Y6 Jd Jq YH Yu Zz Jb PT Jw r1 r2 r3 r4 r5 r6 w0 w hB hE.d hE.m hE.l (fun _ hj => hj) hE.pd hE.pm hE.dm h).mono ?_; rintro e w' ⟨v2', rfl, hd, ⟨n, hn, hm, hl, ho⟩, hb, hk⟩; obtain ⟨A0, c0, e0⟩ := Kd.Xx hd; obtain ⟨A1, c1, e1⟩ := Kd.Xx hm; obtain ⟨A2, c2, e2⟩ := Kd.Xx hl
 have ho' : ∀ j, some j = v2'.ownBlock → (some j = v2.ownBlock ∧ j < w.heap.size) ∨ w.heap.size ≤ j ∧ j < n := fun j hj => by
  rcases ho with ho | ho
  ·rw [ho] at hj; exact .inl ⟨hj, Kd.Fe hE.l j hj.symm⟩
  ·exact .inr (ho j hj)
 refine ⟨A0, c0, A1, c1, A2, c2, by rw [e0, e1, e2], PD, fun j => (PM j ∨ n ≤ j) ∧ j < w'.heap.size, ?_, ?_, hb, hk.mono (fun j hj => hj.elim (fun h => .inr (.inr h)) (fun h => .inr (.inl h)))⟩
 ·rw [← e0, ← e1, ← e2]
  refine ⟨hd, Kd.XY (Kd.Z5 hm) (fun j hj => ⟨hj.1, hj.2.2.1⟩), hl, fun j hj => ⟨Nat.lt_of_lt_of_le (hE.pd j hj).1 hk.1, fun e => ?_⟩, fun j hj => ⟨hj.2, fun e => ?_⟩, fun j hj hp => ?_⟩
  ·rcases ho' j e with h1 | h1
   ·exact (hE.pd j hj).2 h1.1
   ·have := (hE.pd j hj).1; omega
  ·rcases ho' j e with h1 | h1
   ·rcases hj.1 with h2 | h2
    ·exact (hE.pm j h2).2 h1.1
    ·omega
   ·rcases hj.1 with h2 | h2
    ·have := (hE.pm j h2).1; omega
    ·omega
  ·rcases hp.1 with h2 | h2
   ·exact hE.dm j hj h2
   ·have := (hE.pd j hj).1; omega
 ·intro j hj
  rcases hj with h1 | h1 | h1
  ·exact .inl (.inl h1)
  ·rcases h1.1 with h2 | h2
   ·exact .inl (.inr (.inl h2))
   ·exact .inr (Nat.le_trans hn h2)
  ·rw [← e2] at h1
   rcases ho' j h1 with h2 | h2
   ·exact .inl (.inr (.inr h2.1))
   ·exact .inr h2.1
end Go.Proofs.Ytcefiblpnegepaa.Pr
