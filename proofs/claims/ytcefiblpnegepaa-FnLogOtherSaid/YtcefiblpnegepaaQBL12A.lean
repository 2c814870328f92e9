import Derived.Test.YtcefiblpnegepaaQBByq
import Derived.Test.YtcefiblpnegepaaQBSq
import Derived.Test.YtcefiblpnegepaaQBENew
import Derived.Test.YtcefiblpnegepaaQBL2
import Derived.Test.YtcefiblpnegepaaQBPrNeed
namespace Go.Proofs.Ytcefiblpnegepaa.Pr
open Go.RowKit Go.PW Go.PL Go.PM
attribute [local go_sem] Y3 Y4 YV YW Yk Yl Y5 Y6
set_option linter.unusedVariables false
set_option linter.unusedSimpArgs false
def Gr (a0 a1 a2 a3 a4 a5 a6 a7 : Int) (D M : List S25) (L : List S41) (s : Int) (d : Bool) : Option (List S25 × List S25 × List S41 × Int × Bool × Bool) := if 0 ≤ a2 then (if a2 < (M.length : Int) then ((Dm.f (Xn M a2).f0 (Xn M a2).f1 (Xn M a2).f2 a0 a1 a2 a3 a4 a5 a6 a7 (L.length : Int)).bind fun x => some (D, M.set a2.toNat ⟨x.1, x.2.1, x.2.2⟩, L, s, d, true)) else none) else none
def XM.f (k : Nat) (Y2 : List (S25)) (Yi : List (S25)) (XE : List (S41)) (Yr : Int) (Y7 : Bool) (ZY : Int) (Jl : Int) (YH : Int) (Yw : Int) (Z4 : Int) (ZW : Int) (Pq : Int) (Js : Int) : Option ((List (S25)) × (List (S25)) × (List (S41)) × Int × Bool × Bool) := (Xu.f k XE Jl).bind fun Jo => ((some (([] : List (S41)) : List (S41))).bind fun WV => (if WV.length + XE.length < 2199023255552 then ((some (WV ++ XE : List (S41))).bind fun Nl => ((some (([(⟨ZY, Jl, YH, Yw, Z4, ZW, Jo, Js⟩ : S41)] : List (S41)) : List (S41))).bind fun Uo => (if Nl.length + Uo.length < 2199023255552 then ((some (Nl ++ Uo : List (S41))).bind fun Jm => ((X8.f k Jm).bind fun NP => (if (wrap64 ((Jm.length : Int) + NP)) > 150 then (some (Y2, Yi, XE, Yr, Y7, false)) else ((Zg.f ZY).bind fun NQ => (if NQ = true then (Gr ZY Jl YH Yw Z4 ZW Jo Js Y2 Yi Jm Yr Y7) else (some (Y2, Yi, Jm, Yr, Y7, true))))))) else (none)))) else (none)))
def XM.T2 : Bool × List (List Nat × List Nat) := (true, [([], []), ([], []), ([1], [1]), ([0, 2], [0, 2]), ([], []), ([4], [4]), ([3, 5, 3], [3, 5]), ([6, 6, 0, 1, 2, 3, 4, 5, 6], [6])])
def XM.B2 : List Nat := [0, 0, 2, 7, 0, 16, 63, 127]
theorem XM.Xov : JG .any (opsOf Try.f153 2) = XM.T2 := by kernel_rfl
theorem XM.XgM : Jh XM.T2.2 XM.B2 = true := by kernel_rfl
def XM.T7 : Bool × List (List Nat × List Nat) := (true, [([], []), ([0], [0]), ([], []), ([2], [2]), ([], []), ([4], [4]), ([], []), ([6], [6]), ([5, 7], [5, 7]), ([8], [8]), ([], []), ([], []), ([11], [11]), ([9, 10, 12], [9, 10, 12]), ([1, 3, 0, 1, 2, 3, 4, 5, 6, 7, 8, 9, 10, 11, 12, 13], [1, 3]), ([14, 13, 13, 0, 1, 2, 3, 4, 5, 6, 7, 8, 9, 10, 11, 12, 13], [13, 14])])
def XM.B7 : List Nat := [0, 1, 0, 4, 0, 16, 0, 64, 240, 496, 0, 0, 2048, 8176, 16383, 32767]
theorem XM.XgG : JG .any (opsOf Try.f153 7) = XM.T7 := by kernel_rfl
theorem XM.Xaw : Jh XM.T7.2 XM.B7 = true := by kernel_rfl
def XjR (w0 w : World) (PD PM : Nat → Prop) (v0 v1 u : Value) (r1 r2 : List S25) (r3 : List S41) (r4 : Int) (r5 r6 : Bool) (e : Ending) (w' : World) : Prop :=
 ∃ v2, e = .returned (.tuple #[.agg #[v0, v1, v2, .int .i64 r4, .bool r5], .bool r6]) ∧ Kd.R k25 25 w' w0.heap.size PD v0 r1 ∧ (∃ n, w.heap.size ≤ n ∧ Kd.R k25 25 w' w0.heap.size (fun j => PM j ∨ n ≤ j) v1 r2 ∧ Kd.R k41 41 w' w0.heap.size (fun j => some j = v2.ownBlock) v2 r3 ∧ (v2 = u ∨ ∀ j, some j = v2.ownBlock → w.heap.size ≤ j ∧ j < n)) ∧ Below w0.heap.size w0 w' ∧ Kept w w' (fun j => some j = u.ownBlock ∨ PM j)
set_option maxHeartbeats 8000000 in
set_option maxRecDepth 100000 in
theorem XM.calls (k : Nat) (P0_0_ P0_1_ P0_2_ : Nat → Prop) (v0 v1 Mm : Value) (Y2 Yi : List S25) (XE : List S41) (Yr : Int) (Y7 : Bool) (ZY Jl YH Yw Z4 ZW Pq Js : Int) (r1 r2 : List S25) (r3 : List S41) (r4 : Int) (r5 r6 : Bool) (w0 w : World) (hB : Below w0.heap.size w0 w)
 (hD : Kd.R k25 25 w w0.heap.size P0_0_ v0 Y2) (hM : Kd.R k25 25 w w0.heap.size P0_1_ v1 Yi) (ho0_2 : Kd.R k41 41 w w0.heap.size P0_2_ Mm XE) (hP2 : ∀ j, P0_2_ j → some j = Mm.ownBlock) (hPD : ∀ j, P0_0_ j → j < w.heap.size ∧ some j ≠ Mm.ownBlock) (hPM : ∀ j, P0_1_ j → j < w.heap.size ∧ some j ≠ Mm.ownBlock) (hDM : ∀ j, P0_0_ j → ¬ P0_1_ j)
 (h : XM.f k Y2 Yi XE Yr Y7 ZY Jl YH Yw Z4 ZW Pq Js = some (r1, r2, r3, r4, r5, r6)) :
 Calls Try.prog 153 #[.agg #[v0, v1, Mm, .int .i64 Yr, .bool Y7], .agg #[.int .i64 ZY, .int .i64 Jl, .int .i64 YH, .int .i64 Yw, .int .i64 Z4, .int .i64 ZW, .int .i64 Pq, .int .i64 Js]] w (XjR w0 w P0_0_ P0_1_ v0 v1 Mm r1 r2 r3 r4 r5 r6) := by
 obtain ⟨JJ, JK, e0_⟩ := Kd.Xx hD; obtain ⟨JS, J6, e1_⟩ := Kd.Xx hM; subst e0_ e1_; have hs0_0 := Kd.VJ (ok' := fun k_ => P0_0_ k_ ∧ some k_ ≠ (Mm : Value).ownBlock) (Kd.R_V (base' := w0.heap.size) hD) (fun j hj => ⟨hj, (hPD j hj).2⟩); have hs0_1 := Kd.VJ (ok' := fun k_ => P0_1_ k_ ∧ some k_ ≠ (Mm : Value).ownBlock) (Kd.R_V (base' := w0.heap.size) hM) (fun j hj => ⟨hj, (hPM j hj).2⟩); have ED := az hD; have EM := az hM; have EL := az ho0_2; have ZD := az hPD; have ZM := az hPM; have ZL := az hP2; have ZDM := az hDM; clear hD hM hPD hPM hDM hP2; have hu52 := Try.underlying52; have hu41 := Try.underlying41; have Vx := az (show Kd.V k25 25 w w0.heap.size (fun k_ => ((P0_2_ k_ ∨ P0_0_ k_ ∨ P0_1_ k_) ∨ w.heap.size ≤ k_) ∧ some k_ ≠ (Mm : Value).ownBlock) (.slice JJ Y2.length JK) Y2 from Kd.VJ hs0_0 (fun k_ hk => ⟨.inl (.inr (.inl hk.1)), hk.2⟩)); have Vw := az (show Kd.V k25 25 w w0.heap.size (fun k_ => ((P0_2_ k_ ∨ P0_0_ k_ ∨ P0_1_ k_) ∨ w.heap.size ≤ k_) ∧ some k_ ≠ (Mm : Value).ownBlock) (.slice JS Yi.length J6) Yi from Kd.VJ hs0_1 (fun k_ hk => ⟨.inl (.inr (.inr hk.1)), hk.2⟩)); have Va := az (show Kd.R k41 41 w w0.heap.size (fun k_ => (P0_2_ k_ ∨ w.heap.size ≤ k_)) Mm XE from Kd.XN ho0_2 (fun k_ hk => (.inl hk))); have HK := az (Kept.refl w (fun k_ => P0_2_ k_)); have HW0 := az hB.size; have HB := az hB; clear hB; have H : ((Xu.f k XE Jl).bind fun Jo => ((some (([] : List (S41)) : List (S41))).bind fun WV => (if WV.length + XE.length < 2199023255552 then ((some (WV ++ XE : List (S41))).bind fun Nl => ((some (([(⟨ZY, Jl, YH, Yw, Z4, ZW, Jo, Js⟩ : S41)] : List (S41)) : List (S41))).bind fun Uo => (if Nl.length + Uo.length < 2199023255552 then ((some (Nl ++ Uo : List (S41))).bind fun Jm => ((X8.f k Jm).bind fun NP => (if (wrap64 ((Jm.length : Int) + NP)) > 150 then (some (Y2, Yi, XE, Yr, Y7, false)) else ((Zg.f ZY).bind fun NQ => (if NQ = true then (Gr ZY Jl YH Yw Z4 ZW Jo Js Y2 Yi Jm Yr Y7) else (some (Y2, Yi, Jm, Yr, Y7, true))))))) else (none)))) else (none)))) = some (r1, r2, r3, r4, r5, r6) := h
 clear h; replace H := Option.bind_eq_some_iff.mp H; obtain ⟨Jo, A30, H⟩ := H; replace H : ((some (([] : List (S41)) : List (S41))).bind fun WV => (if WV.length + XE.length < 2199023255552 then ((some (WV ++ XE : List (S41))).bind fun Nl => ((some (([(⟨ZY, Jl, YH, Yw, Z4, ZW, Jo, Js⟩ : S41)] : List (S41)) : List (S41))).bind fun Uo => (if Nl.length + Uo.length < 2199023255552 then ((some (Nl ++ Uo : List (S41))).bind fun Jm => ((X8.f k Jm).bind fun NP => (if (wrap64 ((Jm.length : Int) + NP)) > 150 then (some (Y2, Yi, XE, Yr, Y7, false)) else ((Zg.f ZY).bind fun NQ => (if NQ = true then (Gr ZY Jl YH Yw Z4 ZW Jo Js Y2 Yi Jm Yr Y7) else (some (Y2, Yi, Jm, Yr, Y7, true))))))) else (none)))) else (none))) = some (r1, r2, r3, r4, r5, r6) := H; have A3 := az A30; clear A30
 obtain ⟨WV, hy299⟩ : ∃ y_ : List (S41), y_ = (([] : List (S41))) := ⟨_, rfl⟩
 replace H : (if WV.length + XE.length < 2199023255552 then ((some (WV ++ XE : List (S41))).bind fun Nl => ((some (([(⟨ZY, Jl, YH, Yw, Z4, ZW, Jo, Js⟩ : S41)] : List (S41)) : List (S41))).bind fun Uo => (if Nl.length + Uo.length < 2199023255552 then ((some (Nl ++ Uo : List (S41))).bind fun Jm => ((X8.f k Jm).bind fun NP => (if (wrap64 ((Jm.length : Int) + NP)) > 150 then (some (Y2, Yi, XE, Yr, Y7, false)) else ((Zg.f ZY).bind fun NQ => (if NQ = true then (Gr ZY Jl YH Yw Z4 ZW Jo Js Y2 Yi Jm Yr Y7) else (some (Y2, Yi, Jm, Yr, Y7, true))))))) else (none)))) else (none)) = some (r1, r2, r3, r4, r5, r6) := by first | (rw [hy299]; with_reducible exact H) | (have H2_ := (Option.bind_some _ _).symm.trans H; rw [hy299]; with_reducible exact H2_) | (have H2_ := (Option.bind_some _ _).symm.trans H; with_reducible exact H2_) | with_reducible exact H | (rw [hy299]; exact H) | exact H
 have Ny299 := az hy299; clear hy299
 by_cases c4 : WV.length + XE.length < 2199023255552
 ·rw [if_pos c4] at H
  have LMc4 := az c4; clear c4
  obtain ⟨Nl, hy302⟩ : ∃ y_ : List (S41), y_ = (WV ++ XE) := ⟨_, rfl⟩
  replace H : ((some (([(⟨ZY, Jl, YH, Yw, Z4, ZW, Jo, Js⟩ : S41)] : List (S41)) : List (S41))).bind fun Uo => (if Nl.length + Uo.length < 2199023255552 then ((some (Nl ++ Uo : List (S41))).bind fun Jm => ((X8.f k Jm).bind fun NP => (if (wrap64 ((Jm.length : Int) + NP)) > 150 then (some (Y2, Yi, XE, Yr, Y7, false)) else ((Zg.f ZY).bind fun NQ => (if NQ = true then (Gr ZY Jl YH Yw Z4 ZW Jo Js Y2 Yi Jm Yr Y7) else (some (Y2, Yi, Jm, Yr, Y7, true))))))) else (none))) = some (r1, r2, r3, r4, r5, r6) := by first | (rw [hy302]; with_reducible exact H) | (have H2_ := (Option.bind_some _ _).symm.trans H; rw [hy302]; with_reducible exact H2_) | (have H2_ := (Option.bind_some _ _).symm.trans H; with_reducible exact H2_) | with_reducible exact H | (rw [hy302]; exact H) | exact H
  have Ny302 := az hy302; clear hy302
  obtain ⟨Uo, hy305⟩ : ∃ y_ : List (S41), y_ = (([(⟨ZY, Jl, YH, Yw, Z4, ZW, Jo, Js⟩ : S41)] : List (S41))) := ⟨_, rfl⟩
  replace H : (if Nl.length + Uo.length < 2199023255552 then ((some (Nl ++ Uo : List (S41))).bind fun Jm => ((X8.f k Jm).bind fun NP => (if (wrap64 ((Jm.length : Int) + NP)) > 150 then (some (Y2, Yi, XE, Yr, Y7, false)) else ((Zg.f ZY).bind fun NQ => (if NQ = true then (Gr ZY Jl YH Yw Z4 ZW Jo Js Y2 Yi Jm Yr Y7) else (some (Y2, Yi, Jm, Yr, Y7, true))))))) else (none)) = some (r1, r2, r3, r4, r5, r6) := by first | (rw [hy305]; with_reducible exact H) | (have H2_ := (Option.bind_some _ _).symm.trans H; rw [hy305]; with_reducible exact H2_) | (have H2_ := (Option.bind_some _ _).symm.trans H; with_reducible exact H2_) | with_reducible exact H | (rw [hy305]; exact H) | exact H
  have Ny305 := az hy305; clear hy305
  by_cases c5 : Nl.length + Uo.length < 2199023255552
  ·rw [if_pos c5] at H
   have LMc5 := az c5; clear c5
   obtain ⟨Jm, hy308⟩ : ∃ y_ : List (S41), y_ = (Nl ++ Uo) := ⟨_, rfl⟩
   replace H : ((X8.f k Jm).bind fun NP => (if (wrap64 ((Jm.length : Int) + NP)) > 150 then (some (Y2, Yi, XE, Yr, Y7, false)) else ((Zg.f ZY).bind fun NQ => (if NQ = true then (Gr ZY Jl YH Yw Z4 ZW Jo Js Y2 Yi Jm Yr Y7) else (some (Y2, Yi, Jm, Yr, Y7, true)))))) = some (r1, r2, r3, r4, r5, r6) := by first | (rw [hy308]; with_reducible exact H) | (have H2_ := (Option.bind_some _ _).symm.trans H; rw [hy308]; with_reducible exact H2_) | (have H2_ := (Option.bind_some _ _).symm.trans H; with_reducible exact H2_) | with_reducible exact H | (rw [hy308]; exact H) | exact H
   have Ny308 := az hy308; clear hy308; replace H := Option.bind_eq_some_iff.mp H; obtain ⟨NP, A60, H⟩ := H; replace H : (if (wrap64 ((Jm.length : Int) + NP)) > 150 then (some (Y2, Yi, XE, Yr, Y7, false)) else ((Zg.f ZY).bind fun NQ => (if NQ = true then (Gr ZY Jl YH Yw Z4 ZW Jo Js Y2 Yi Jm Yr Y7) else (some (Y2, Yi, Jm, Yr, Y7, true))))) = some (r1, r2, r3, r4, r5, r6) := H; have A6 := az A60; clear A60; obtain ⟨Ao8, co8, eo8⟩ := Kd.Xx Va.out; subst eo8
   go_enter Try.func153, Try.ntmps153
   try go_wp2_with (first | ((with_reducible refine XZ (N := 2) rfl ?_); refine YL ?hg (N := 2) ?hd (cs := #[.slice JJ Y2.length JK, .slice JS Yi.length J6, .slice Ao8 XE.length co8, .int .i64 Yr, .bool Y7]) (t := 52) ?hr ?_; (case hd => rfl); (case hg => rfl); (case hr => exact zb21); intro YX hg w9 hbox hb; replace Va := az (Kd.Xz zb19 hb); replace Vx := az (Kd.WK (Kd.NL zb46 YX (Nat.le_of_eq hg.symm)) hb); replace Vw := az (Kd.WK (Kd.NL zb45 YX (Nat.le_of_eq hg.symm)) hb); have Yv := az (hbox); have XbN := az ((by rw [hg]; exact (by first | exact HK.out.1 | exact (show Kept w _ (fun k_ => P0_2_ k_) from zb140).1) : w.heap.size ≤ YX)); replace HK := az (Kept.below (S := (fun k_ => P0_2_ k_)) zb140 hb); have XpB := az ((zb150 : w0.heap.size ≤ YX)); replace HB := az (Xe zb1 hb); clear hb hbox hg) | ((with_reducible refine XZ (N := 3) rfl ?_); refine YL ?hg (N := 3) ?hd (cs := #[.int .i64 ZY, .int .i64 Jl, .int .i64 YH, .int .i64 Yw, .int .i64 Z4, .int .i64 ZW, .int .i64 Pq, .int .i64 Js]) (t := 41) ?hr ?_; (case hd => rfl); (case hg => rfl); (case hr => exact zb21); intro XO hg w10 hbox hb; replace Va := az (Kd.Xz (Kd.XgN zb19 XO (Nat.le_of_eq hg.symm)) hb); replace Vx := az (Kd.WK (Kd.NL zb46 XO (Nat.le_of_eq hg.symm)) hb); replace Vw := az (Kd.WK (Kd.NL zb45 XO (Nat.le_of_eq hg.symm)) hb); have XV := az (hbox); have Xle := az ((by rw [hg]; exact (by first | exact HK.out.1 | exact (show Kept w _ (fun k_ => P0_2_ k_) from zb126).1) : w.heap.size ≤ XO)); replace HK := az (Kept.below (S := (fun k_ => P0_2_ k_)) zb126 hb); have GE296 := az ((by rw [hg]; exact (Xq zb6) : w0.heap.size ≤ XO)); replace HB := az (Xe zb6 hb); obtain ⟨Og, Oh⟩ := nb Yv hg (fun h => by (with_reducible repeat (first | apply bn | apply bd | apply ba)); exact h); replace Yv := bb Yv (fun h => by (with_reducible repeat (first | apply bn | apply bd | apply ba)); exact h) hb; clear hb hbox hg) | ((with_reducible refine XZ (N := 4) rfl ?_); refine YL ?hg (N := 4) ?hd (cs := #[.slice none 0 0, .slice none 0 0, .slice none 0 0, .int .i64 0, .bool false]) (t := 52) ?hr ?_; (case hd => rfl); (case hg => rfl); (case hr => exact zb21); intro Zo hg w11 hbox hb; replace Va := az (Kd.Xz zb19 hb); replace Vx := az (Kd.WK (Kd.NL zb46 Zo (Nat.le_of_eq hg.symm)) hb); replace Vw := az (Kd.WK (Kd.NL zb45 Zo (Nat.le_of_eq hg.symm)) hb); have Vs := az (hbox); have U8 := az ((by rw [hg]; exact (by first | exact HK.out.1 | exact (show Kept w _ (fun k_ => P0_2_ k_) from zb112).1) : w.heap.size ≤ Zo)); replace HK := az (Kept.below (S := (fun k_ => P0_2_ k_)) zb112 hb); have Mo := az ((by rw [hg]; exact (Xq zb6) : w0.heap.size ≤ Zo)); replace HB := az (Xe zb6 hb); obtain ⟨Xd1, Oi⟩ := nb Yv hg (fun h => by (with_reducible repeat (first | apply bn | apply bd | apply ba)); exact h); replace Yv := bb Yv (fun h => by (with_reducible repeat (first | apply bn | apply bd | apply ba)); exact h) hb; obtain ⟨Xd2, Oj⟩ := nb XV hg (fun h => by (with_reducible repeat (first | apply bn | apply bd | apply ba)); exact h); replace XV := bb XV (fun h => by (with_reducible repeat (first | apply bn | apply bd | apply ba)); exact h) hb; clear hb hbox hg; have XpC := Og.out; have XpD := Oh.out; have hnb13 := Xd1.out; have hnc13 := Oi.out; obtain ⟨Ic, Ie, Ig, Ih, Ii⟩ := cz5 Yv; obtain ⟨Ij, Ik, Il, Im, Io⟩ := fz5 Yv; have XpE := Xd2.out; have XpF := Oj.out; obtain ⟨XbQ, XbR, XbS, XbT, XbU, Xh4, Xh5, Xh6⟩ := cz8 XV; obtain ⟨XbV, XbW, XbX, XbY, XbZ, Xh7, Xh8⟩ := fz7 XV; have Xh9 := Xf XV.out 7) | ((with_reducible refine Xg (f := 84) rfl ?_); refine X6 (some 11) rfl rfl Try.func84 zb13 rfl #[.slice Ao8 XE.length co8, .int .i64 Jl] rfl zb0 ?_; (with_reducible refine (Xu.calls k _ _ XE Jl Jo _ ?side1 ?side2 A3.out).mono ?_); (case side1 => exact zb75); (case side2 => exact (Kd.Xi Va.out).2.1); rintro e w' ⟨rfl, ⟨nd, rfl⟩⟩; refine ⟨_, rfl, ?_⟩; (try (rw [Xbw w11]; generalize hq_ : World.drewN w11 _ = w11; have n0_ : Aside0 (Kd.V k25 25 w11 w0.heap.size (fun k_ => ((P0_2_ k_ ∨ P0_0_ k_ ∨ P0_1_ k_) ∨ w.heap.size ≤ k_) ∧ some k_ ≠ (.slice Ao8 XE.length co8 : Value).ownBlock ∧ k_ ≠ YX ∧ k_ ≠ XO ∧ k_ ≠ Zo) (.slice JJ Y2.length JK) Y2) := ⟨by rw [← hq_]; exact (by (with_reducible repeat (first | apply Kd.VH | apply Kd.VI | apply Kd.Dp)); exact Kd.VJ Vx.out (fun _ hk => ⟨hk.1.1.1.1, ⟨hk.1.1.1.2, ⟨hk.1.1.2, ⟨hk.1.2, hk.2⟩⟩⟩⟩))⟩; have n1_ : Aside0 (Kd.V k25 25 w11 w0.heap.size (fun k_ => ((P0_2_ k_ ∨ P0_0_ k_ ∨ P0_1_ k_) ∨ w.heap.size ≤ k_) ∧ some k_ ≠ (.slice Ao8 XE.length co8 : Value).ownBlock ∧ k_ ≠ YX ∧ k_ ≠ XO ∧ k_ ≠ Zo) (.slice JS Yi.length J6) Yi) := ⟨by rw [← hq_]; exact (by (with_reducible repeat (first | apply Kd.VH | apply Kd.VI | apply Kd.Dp)); exact Kd.VJ Vw.out (fun _ hk => ⟨hk.1.1.1.1, ⟨hk.1.1.1.2, ⟨hk.1.1.2, ⟨hk.1.2, hk.2⟩⟩⟩⟩))⟩; have n2_ : Aside0 (Kd.R k41 41 w11 w0.heap.size (fun k_ => (P0_2_ k_ ∨ w.heap.size ≤ k_) ∧ k_ ≠ XO) (.slice Ao8 XE.length co8) XE) := ⟨by rw [← hq_]; exact zb19⟩; have n3_ : Aside0 (w11.heap[YX]? = some (.cells #[.slice JJ Y2.length JK, .slice JS Yi.length J6, .slice Ao8 XE.length co8, .int .i64 Yr, .bool Y7] 52 (0, 0))) := ⟨by rw [← hq_]; exact zb63⟩; have n4_ : Aside0 (w11.heap[XO]? = some (.cells #[.int .i64 ZY, .int .i64 Jl, .int .i64 YH, .int .i64 Yw, .int .i64 Z4, .int .i64 ZW, .int .i64 Pq, .int .i64 Js] 41 (0, 0))) := ⟨by rw [← hq_]; exact zb35⟩; have n5_ : Aside0 (w11.heap[Zo]? = some (.cells #[.slice none 0 0, .slice none 0 0, .slice none 0 0, .int .i64 0, .bool false] 52 (0, 0))) := ⟨by rw [← hq_]; exact zb62⟩; have n6_ : Aside0 (Kept w w11 (fun k_ => P0_2_ k_)) := ⟨by rw [← hq_]; exact zb10⟩; have n7_ : Aside0 (Below w0.heap.size w0 w11) := ⟨by rw [← hq_]; exact zb6⟩; clear Vx Vw Va Yv XV Vs HK HB hq_; have Vx := n0_; have Vw := n1_; have Va := n2_; have Yv := n3_; have XV := n4_; have Vs := n5_; have HK := n6_; have HB := n7_; clear n0_ n1_ n2_ n3_ n4_ n5_ n6_ n7_; have hcw_ : w11.cell? ⟨XO, 6, none⟩ = some (.int .i64 Pq) := bt XV rfl; have hfw_ := Xf XV.out 6))))
   have n0_ : Aside0 (Kd.R k41 41 (w11.setCell ⟨XO, 6, none⟩ (.int .i64 Jo)) w0.heap.size (fun k_ => (P0_2_ k_ ∨ w.heap.size ≤ k_) ∧ k_ ≠ XO) (.slice Ao8 XE.length co8) XE) := ⟨by (with_reducible repeat (first | apply Kd.XI | apply Kd.XJ | apply Kd.XR)); exact Kd.XN (Kd.ZZ (p := ⟨XO, 6, none⟩) (Kd.XN Va.out (fun k_ hk => (⟨hk, hk.2⟩ : _ ∧ k_ ≠ XO))) (fun _ hk => hk.2) (.int .i64 Jo)) (fun _ hk => ⟨hk.1.1, hk.1.2⟩)⟩
   have n1_ : Aside0 (Kd.V k25 25 (w11.setCell ⟨XO, 6, none⟩ (.int .i64 Jo)) w0.heap.size (fun k_ => ((P0_2_ k_ ∨ P0_0_ k_ ∨ P0_1_ k_) ∨ w.heap.size ≤ k_) ∧ some k_ ≠ (.slice Ao8 XE.length co8 : Value).ownBlock ∧ k_ ≠ YX ∧ k_ ≠ XO ∧ k_ ≠ Zo) (.slice JJ Y2.length JK) Y2) := ⟨by (with_reducible repeat (first | apply Kd.VH | apply Kd.VI | apply Kd.Dp)); exact Kd.VJ (Kd.XlG (p := ⟨XO, 6, none⟩) (Kd.VJ Vx.out (fun k_ hk => (⟨hk, hk.2.2.2.1⟩ : _ ∧ k_ ≠ XO))) (fun _ hk => hk.2) (.int .i64 Jo)) (fun _ hk => hk.1)⟩
   have n2_ : Aside0 (Kd.V k25 25 (w11.setCell ⟨XO, 6, none⟩ (.int .i64 Jo)) w0.heap.size (fun k_ => ((P0_2_ k_ ∨ P0_0_ k_ ∨ P0_1_ k_) ∨ w.heap.size ≤ k_) ∧ some k_ ≠ (.slice Ao8 XE.length co8 : Value).ownBlock ∧ k_ ≠ YX ∧ k_ ≠ XO ∧ k_ ≠ Zo) (.slice JS Yi.length J6) Yi) := ⟨by (with_reducible repeat (first | apply Kd.VH | apply Kd.VI | apply Kd.Dp)); exact Kd.VJ (Kd.XlG (p := ⟨XO, 6, none⟩) (Kd.VJ Vw.out (fun k_ hk => (⟨hk, hk.2.2.2.1⟩ : _ ∧ k_ ≠ XO))) (fun _ hk => hk.2) (.int .i64 Jo)) (fun _ hk => hk.1)⟩
   have n3_ : Aside0 ((w11.setCell ⟨XO, 6, none⟩ (.int .i64 Jo)).heap[YX]? = some (.cells #[.slice JJ Y2.length JK, .slice JS Yi.length J6, .slice Ao8 XE.length co8, .int .i64 Yr, .bool Y7] 52 (0, 0))) := ⟨by (repeat (first | (with_reducible first | apply bn | apply bd | apply ba) | apply bf Og)); exact Yv.out⟩
   have n4_ : Aside0 ((w11.setCell ⟨XO, 6, none⟩ (.int .i64 Jo)).heap[XO]? = some (.cells #[.int .i64 ZY, .int .i64 Jl, .int .i64 YH, .int .i64 Yw, .int .i64 Z4, .int .i64 ZW, .int .i64 Jo, .int .i64 Js] 41 (0, 0))) := ⟨by (with_reducible repeat (first | apply bn | apply bd | apply ba)); refine X9 (cs := #[.int .i64 ZY, .int .i64 Jl, .int .i64 YH, .int .i64 Yw, .int .i64 Z4, .int .i64 ZW, .int .i64 Pq, .int .i64 Js]) ?_ 6 _ rfl; (with_reducible repeat (first | apply bn | apply bd | apply ba)); exact XV.out⟩
   have n5_ : Aside0 ((w11.setCell ⟨XO, 6, none⟩ (.int .i64 Jo)).heap[Zo]? = some (.cells #[.slice none 0 0, .slice none 0 0, .slice none 0 0, .int .i64 0, .bool false] 52 (0, 0))) := ⟨by (repeat (first | (with_reducible first | apply bn | apply bd | apply ba) | apply bf Oj)); exact Vs.out⟩
   have n6_ : Aside0 (Kept w (w11.setCell ⟨XO, 6, none⟩ (.int .i64 Jo)) (fun k_ => P0_2_ k_)) := ⟨zb10⟩
   have n7_ : Aside0 (Below w0.heap.size w0 (w11.setCell ⟨XO, 6, none⟩ (.int .i64 Jo))) := ⟨zb6⟩
   (try clear Va)
   (try clear Vx)
   (try clear Vw)
   (try clear Yv)
   (try clear XV)
   (try clear Vs)
   (try clear HK)
   (try clear HB)
   generalize (w11.setCell ⟨XO, 6, none⟩ (.int .i64 Jo)) = w17 at n0_ n1_ n2_ n3_ n4_ n5_ n6_ n7_ ⊢; have Va := n0_; have Vx := n1_; have Vw := n2_; have Yv := n3_; have XV := n4_; have Vs := n5_; have HK := n6_; have HB := n7_; clear n0_ n1_ n2_ n3_ n4_ n5_ n6_ n7_; replace Va := az (Kd.XR Va.out); replace Vx := az (Kd.Dp Vx.out); replace Vw := az (Kd.Dp Vw.out); replace Yv := az (Yd Yv.out); replace XV := az (Yd XV.out); replace Vs := az (Yd Vs.out); replace HK := az (Kept.drew HK.out); replace HB := az (wd HB.out); refine ZR (n := 8) (S := fun w' => w'.cell? ⟨YX, 0, none⟩ = some (.slice JJ Y2.length JK) ∧ w'.cell? ⟨YX, 1, none⟩ = some (.slice JS Yi.length J6) ∧ w'.cell? ⟨YX, 2, none⟩ = some (.slice Ao8 XE.length co8) ∧ w'.cell? ⟨YX, 3, none⟩ = some (.int .i64 Yr) ∧ w'.cell? ⟨YX, 4, none⟩ = some (.bool Y7) ∧ w'.cell? ⟨XO, 0, none⟩ = some (.int .i64 ZY) ∧ w'.cell? ⟨XO, 1, none⟩ = some (.int .i64 Jl) ∧ w'.cell? ⟨XO, 2, none⟩ = some (.int .i64 YH) ∧ w'.cell? ⟨XO, 3, none⟩ = some (.int .i64 Yw) ∧ w'.cell? ⟨XO, 4, none⟩ = some (.int .i64 Z4) ∧ w'.cell? ⟨XO, 5, none⟩ = some (.int .i64 ZW) ∧ w'.cell? ⟨XO, 6, none⟩ = some (.int .i64 Jo) ∧ w'.cell? ⟨XO, 7, none⟩ = some (.int .i64 Js)) (ds := []) #[false, false, false, false, false, false, false, false] zb13 rfl rfl ⟨bt Yv rfl, bt Yv rfl, bt Yv rfl, bt Yv rfl, bt Yv rfl, bt XV rfl, bt XV rfl, bt XV rfl, bt XV rfl, bt XV rfl, bt XV rfl, bt XV rfl, bt XV rfl⟩ (fun hHeld => ?_); refine ZV XM.Xov XM.XgM (fun HT_ HW_ => ?_)
   generalize w17.drew = w18 at Va Vx Vw Yv XV Vs HK HB hHeld ⊢; refine Nc (i := 1) (N := some 14) (v := ?_) (a' := ?_) #[false, true, false, false, false, false, false, false] rfl rfl (U5 HT_.out zb13) (fun _ _ _ h => h) (Or.inl ⟨by rfl, ?_⟩) ?_ ?_; rotate_left
   ·intro w'
    go_simp
    with_reducible rfl
   rotate_left
   ·simp only [Act.put, List.setIfInBounds_toArray, List.set_cons_zero, List.set_cons_succ, XG, XW]
    rfl
   refine NM (i := 2) (N := some 15) (v := ?_) (a' := ?_) #[false, true, true, false, false, false, false, false] rfl rfl (Gs HT_.out HW_.out zb13) (fun _ _ _ h => h) (Or.inl ⟨by rfl, ?_⟩) hHeld ?_ ?_; rotate_left
   ·rintro w' ⟨s0, s1, s2, s3, s4, s5, s6, s7, s8, s9, s10, s11, s12⟩
    go_simp
    with_reducible rfl
   rotate_left
   ·simp only [Act.put, List.setIfInBounds_toArray, List.set_cons_zero, List.set_cons_succ, XG, XW]
    rfl
   refine NM (i := 4) (N := some 17) (v := ?_) (a' := ?_) #[false, true, true, false, true, false, false, false] rfl rfl (Gs HT_.out HW_.out zb13) (fun _ _ _ h => h) (Or.inl ⟨by rfl, ?_⟩) hHeld ?_ ?_; rotate_left
   ·rintro w' ⟨s0, s1, s2, s3, s4, s5, s6, s7, s8, s9, s10, s11, s12⟩
    go_simp
    with_reducible rfl
   rotate_left
   ·simp only [Act.put, List.setIfInBounds_toArray, List.set_cons_zero, List.set_cons_succ, XG, XW]
    rfl
   refine XlH (σ := Value × Value × Value) 2 #[true, true, true, true, true, true, false, false] (fun s_ => [(13, s_.1), (16, s_.2.1), (18, s_.2.2)]) (fun s_ w' => (w'.cell? ⟨YX, 0, none⟩ = some (.slice JJ Y2.length JK) ∧ w'.cell? ⟨YX, 1, none⟩ = some (.slice JS Yi.length J6) ∧ w'.cell? ⟨YX, 2, none⟩ = some (.slice Ao8 XE.length co8) ∧ w'.cell? ⟨YX, 3, none⟩ = some (.int .i64 Yr) ∧ w'.cell? ⟨YX, 4, none⟩ = some (.bool Y7) ∧ w'.cell? ⟨XO, 0, none⟩ = some (.int .i64 ZY) ∧ w'.cell? ⟨XO, 1, none⟩ = some (.int .i64 Jl) ∧ w'.cell? ⟨XO, 2, none⟩ = some (.int .i64 YH) ∧ w'.cell? ⟨XO, 3, none⟩ = some (.int .i64 Yw) ∧ w'.cell? ⟨XO, 4, none⟩ = some (.int .i64 Z4) ∧ w'.cell? ⟨XO, 5, none⟩ = some (.int .i64 ZW) ∧ w'.cell? ⟨XO, 6, none⟩ = some (.int .i64 Jo) ∧ w'.cell? ⟨XO, 7, none⟩ = some (.int .i64 Js)) ∧ (Kd.V k25 25 w' w0.heap.size (fun k_ => ((P0_2_ k_ ∨ P0_0_ k_ ∨ P0_1_ k_) ∨ w.heap.size ≤ k_) ∧ some k_ ≠ (.slice Ao8 XE.length co8 : Value).ownBlock ∧ some k_ ≠ (s_.2.1 : Value).ownBlock ∧ some k_ ≠ (s_.2.2 : Value).ownBlock ∧ k_ ≠ YX ∧ k_ ≠ XO ∧ k_ ≠ Zo) (.slice JJ Y2.length JK) Y2) ∧ (Kd.V k25 25 w' w0.heap.size (fun k_ => ((P0_2_ k_ ∨ P0_0_ k_ ∨ P0_1_ k_) ∨ w.heap.size ≤ k_) ∧ some k_ ≠ (.slice Ao8 XE.length co8 : Value).ownBlock ∧ some k_ ≠ (s_.2.1 : Value).ownBlock ∧ some k_ ≠ (s_.2.2 : Value).ownBlock ∧ k_ ≠ YX ∧ k_ ≠ XO ∧ k_ ≠ Zo) (.slice JS Yi.length J6) Yi) ∧ (Kd.R k41 41 w' w0.heap.size (fun k_ => (P0_2_ k_ ∨ w.heap.size ≤ k_) ∧ some k_ ≠ (s_.2.1 : Value).ownBlock ∧ some k_ ≠ (s_.2.2 : Value).ownBlock ∧ k_ ≠ XO) (.slice Ao8 XE.length co8) XE) ∧ (Kd.R k41 41 w' w0.heap.size (fun k_ => (P0_2_ k_ ∨ w.heap.size ≤ k_) ∧ some k_ ≠ (.slice Ao8 XE.length co8 : Value).ownBlock ∧ some k_ ≠ (s_.2.2 : Value).ownBlock ∧ k_ ≠ XO) s_.2.1 Nl) ∧ (Kd.R k41 41 w' w0.heap.size (fun k_ => (P0_2_ k_ ∨ w.heap.size ≤ k_) ∧ some k_ ≠ (.slice Ao8 XE.length co8 : Value).ownBlock ∧ some k_ ≠ (s_.2.1 : Value).ownBlock ∧ k_ ≠ XO) s_.2.2 Uo) ∧ (w'.heap[YX]? = some (.cells #[.slice JJ Y2.length JK, .slice JS Yi.length J6, .slice Ao8 XE.length co8, .int .i64 Yr, .bool Y7] 52 (0, 0))) ∧ (w'.heap[XO]? = some (.cells #[.int .i64 ZY, .int .i64 Jl, .int .i64 YH, .int .i64 Yw, .int .i64 Z4, .int .i64 ZW, .int .i64 Jo, .int .i64 Js] 41 (0, 0))) ∧ (w'.heap[Zo]? = some (.cells #[.slice none 0 0, .slice none 0 0, .slice none 0 0, .int .i64 0, .bool false] 52 (0, 0))) ∧ (Kept w w' (fun k_ => P0_2_ k_)) ∧ (Below w0.heap.size w0 w')) ?_ ?_
   rotate_left
   ·intro hCont
    refine Xbx (i := 0) (j := 5) (Ni := some 13) (Nj := some 18) #[true, true, true, false, true, false, false, false] #[false, true, true, false, true, true, false, false] rfl rfl rfl rfl (P7 HT_.out zb13) (by decide) (by decide) (fun K hK => ?_) (fun K hK => ?_)
    ·skip
     refine Kd.VC k41 _ 41 ?hg (N := 13) ?hd (xs := ([] : List (S41))) (inner := []) (ok := fun _ => True) (okp := fun _ => True) ?hr ?hp (fun _ hk => hk) trivial (Below.refl _ _) (Nat.le_refl _) (by simp) ?_; (case hd => rfl); (case hg => rfl); (case hr => exact zb21); (case hp => exact zb121)
     intro QF w19 ho20 hb hg_ hnew_; clear hg_ hnew_
     (first | rw [← Ny299.out] at ho20 | (simp only [Int.reduceToNat] at ho20; rw [← Ny299.out] at ho20))
     replace Vx := az (Kd.F6 zb46 (Kd.YR ho20) hb); replace Vw := az (Kd.F6 zb45 (Kd.YR ho20) hb); have Fw := az (Kd.XT (Kd.BN (Kd.Jc (Kd.BO (M := fun k_ => (P0_2_ k_ ∨ w.heap.size ≤ k_)) ho20 zb163 (fun k_ h_ => .inr h_)) (Kd.J2 zb19)) (g := XO) (o := .cells #[.int .i64 ZY, .int .i64 Jl, .int .i64 YH, .int .i64 Yw, .int .i64 Z4, .int .i64 ZW, .int .i64 Jo, .int .i64 Js] 41 (0, 0)) zb35) (Xq zb6)); replace Va := az (Kd.YT zb19 (Kd.YR ho20) hb); replace Yv := bb Yv (fun h => by (with_reducible repeat (first | apply bn | apply bd | apply ba)); exact h) hb; replace XV := bb XV (fun h => by (with_reducible repeat (first | apply bn | apply bd | apply ba)); exact h) hb; replace Vs := bb Vs (fun h => by (with_reducible repeat (first | apply bn | apply bd | apply ba)); exact h) hb; replace HK := az (Kept.below (S := (fun k_ => P0_2_ k_)) zb10 hb); replace HB := az (Xe zb6 hb); clear hb ho20; refine hK.out _ _ ⟨bt Yv rfl, bt Yv rfl, bt Yv rfl, bt Yv rfl, bt Yv rfl, bt XV rfl, bt XV rfl, bt XV rfl, bt XV rfl, bt XV rfl, bt XV rfl, bt XV rfl, bt XV rfl⟩ (fun hHeld => ?_); clear hK K; refine YP (a' := ?_) ?_ ?_; rotate_left
     ·show Act.put _ (some 13) _ = _
      simp only [Act.put, List.setIfInBounds_toArray, List.set_cons_zero, List.set_cons_succ, XG, XW]
      rfl
     refine Xbx (i := 3) (j := 5) (Ni := some 16) (Nj := some 18) #[true, true, true, true, true, false, false, false] #[true, true, true, false, true, true, false, false] rfl rfl rfl rfl (P7 HT_.out zb13) (by decide) (by decide) (fun K hK => ?_) (fun K hK => ?_)
     ·skip
      refine Kd.JH k41 (w0 := w0) w0.heap.size (by rfl) (.tmp 13) (.tmp 15) 34 41 (.agg #[(.int .i64 0), (.int .i64 0), (.int .i64 0), (.int .i64 0), (.int .i64 0), (.int .i64 0), (.int .i64 0), (.int .i64 0)]) 64 rfl Try.underlying34 FP rfl (by decide) (by omega) QF WV XE _ _ _ (fun k_ => (P0_2_ k_ ∨ w.heap.size ≤ k_) ∧ some k_ ≠ (.slice Ao8 XE.length co8 : Value).ownBlock ∧ k_ ≠ XO) (fun _ => False) rfl rfl ?aO ?aR (fun _ _ h => h) (fun _ h => h.elim) ?aF ?aB ?aS ?aL ?_
      (case aR => exact zb75)
      (case aB => exact zb6)
      (case aF => exact (fun k_ hk => ⟨(.inr (Nat.le_trans zb163 hk)), Kd.fresh' (Kd.J2 zb19) k_ hk, Kd.Xg5 (g := XO) (o := .cells #[.int .i64 ZY, .int .i64 Jl, .int .i64 YH, .int .i64 Yw, .int .i64 Z4, .int .i64 ZW, .int .i64 Jo, .int .i64 Js] 41 (0, 0)) zb35 k_ hk⟩))
      (case aO => exact (by (with_reducible repeat (first | apply Kd.XI | apply Kd.XJ | apply Kd.XR)); exact Kd.XN Fw.out (fun _ hk => ⟨hk.1.1.1, ⟨hk.1.2, hk.2⟩⟩)))
      (case aS => exact (Xq zb6))
      (case aL => have := LMc4.out; omega)
      intro Rb w21 ho hb hg hat; rw [← Ny302.out] at ho; replace Va := az (Kd.Fj (ok := (fun k_ => (P0_2_ k_ ∨ w.heap.size ≤ k_) ∧ k_ ≠ XO)) zb19 hg hat); replace Vx := az (Kd.U0 (ok := (fun k_ => ((P0_2_ k_ ∨ P0_0_ k_ ∨ P0_1_ k_) ∨ w.heap.size ≤ k_) ∧ some k_ ≠ (.slice Ao8 XE.length co8 : Value).ownBlock ∧ k_ ≠ YX ∧ k_ ≠ XO ∧ k_ ≠ Zo)) zb46 hg hat); replace Vw := az (Kd.U0 (ok := (fun k_ => ((P0_2_ k_ ∨ P0_0_ k_ ∨ P0_1_ k_) ∨ w.heap.size ≤ k_) ∧ some k_ ≠ (.slice Ao8 XE.length co8 : Value).ownBlock ∧ k_ ≠ YX ∧ k_ ≠ XO ∧ k_ ≠ Zo)) zb45 hg hat); replace Yv := az (Jk (g := YX) (o := .cells #[.slice JJ Y2.length JK, .slice JS Yi.length J6, .slice Ao8 XE.length co8, .int .i64 Yr, .bool Y7] 52 (0, 0)) zb63 hg (Kd.Pf Fw.out Yv.out (by decide))); replace XV := az (Jk (g := XO) (o := .cells #[.int .i64 ZY, .int .i64 Jl, .int .i64 YH, .int .i64 Yw, .int .i64 Z4, .int .i64 ZW, .int .i64 Jo, .int .i64 Js] 41 (0, 0)) zb35 hg (Kd.Ql Fw.out (fun _ hk => hk.2))); replace Vs := az (Jk (g := Zo) (o := .cells #[.slice none 0 0, .slice none 0 0, .slice none 0 0, .int .i64 0, .bool false] 52 (0, 0)) zb62 hg (Kd.Pf Fw.out Vs.out (by decide))); replace HB := az (hb); replace HK := az (Kept.U1 (S := (fun k_ => P0_2_ k_)) hg zb10 (fun k_ e_ => (Fw.out.1 k_ e_).1.1.1)); have SC := az (ho); clear Fw; clear ho hb hg hat; refine hK.out _ _ ⟨bt Yv rfl, bt Yv rfl, bt Yv rfl, bt Yv rfl, bt Yv rfl, bt XV rfl, bt XV rfl, bt XV rfl, bt XV rfl, bt XV rfl, bt XV rfl, bt XV rfl, bt XV rfl⟩ (fun hHeld => ?_)
      clear hK K; refine YP (a' := ?_) ?_ ?_; rotate_left
      ·show Act.put _ (some 16) _ = _
       simp only [Act.put, List.setIfInBounds_toArray, List.set_cons_zero, List.set_cons_succ, XG, XW]
       rfl
      refine Vr (i := 5) (N := some 18) #[true, true, true, true, true, true, false, false] rfl rfl (Zf HT_.out zb13) (by decide) (fun K hK => ?_)
      refine Kd.VC k41 _ 41 ?hg (N := 18) ?hd (xs := ([(⟨ZY, Jl, YH, Yw, Z4, ZW, Jo, Js⟩ : S41)] : List (S41))) (inner := [.int .i64 ZY, .int .i64 Jl, .int .i64 YH, .int .i64 Yw, .int .i64 Z4, .int .i64 ZW, .int .i64 Jo, .int .i64 Js]) (ok := fun _ => True) (okp := fun _ => True) ?hr ?hp (fun _ hk => hk) trivial (Below.refl _ _) (Nat.le_refl _) (by simp) ?_; (case hd => rfl); (case hg => rfl); (case hr => exact zb21); (case hp => exact zb56)
      intro NR w22 ho23 hb hg_ hnew_; clear hg_ hnew_
      (first | rw [← Ny305.out] at ho23 | (simp only [Int.reduceToNat] at ho23; rw [← Ny305.out] at ho23))
      replace Vx := az (Kd.F6 zb46 (Kd.YR ho23) hb); replace Vw := az (Kd.F6 zb45 (Kd.YR ho23) hb); have U9 := az (Kd.XT (Kd.BN (Kd.Jc (Kd.Jc (Kd.BO (M := fun k_ => (P0_2_ k_ ∨ w.heap.size ≤ k_)) ho23 zb163 (fun k_ h_ => .inr h_)) (Kd.J2 zb19)) (Kd.J2 zb83)) (g := XO) (o := .cells #[.int .i64 ZY, .int .i64 Jl, .int .i64 YH, .int .i64 Yw, .int .i64 Z4, .int .i64 ZW, .int .i64 Jo, .int .i64 Js] 41 (0, 0)) zb35) (Xq zb6)); replace Va := az (Kd.YT zb19 (Kd.YR ho23) hb); replace SC := az (Kd.YT zb83 (Kd.YR ho23) hb); replace Yv := bb Yv (fun h => by (with_reducible repeat (first | apply bn | apply bd | apply ba)); exact h) hb; replace XV := bb XV (fun h => by (with_reducible repeat (first | apply bn | apply bd | apply ba)); exact h) hb; replace Vs := bb Vs (fun h => by (with_reducible repeat (first | apply bn | apply bd | apply ba)); exact h) hb; replace HK := az (Kept.below (S := (fun k_ => P0_2_ k_)) zb10 hb); replace HB := az (Xe zb6 hb); clear hb ho23; refine hK.out _ _ ⟨bt Yv rfl, bt Yv rfl, bt Yv rfl, bt Yv rfl, bt Yv rfl, bt XV rfl, bt XV rfl, bt XV rfl, bt XV rfl, bt XV rfl, bt XV rfl, bt XV rfl, bt XV rfl⟩ (fun hHeld => ?_); clear hK K; refine YP (a' := ?_) ?_ ?_; rotate_left
      ·show Act.put _ (some 18) _ = _
       simp only [Act.put, List.setIfInBounds_toArray, List.set_cons_zero, List.set_cons_succ, XG, XW]
       rfl
      exact YP zb78 (hCont (QF, Rb, NR) _ ⟨hHeld, (by (with_reducible repeat (first | apply Kd.VH | apply Kd.VI | apply Kd.Dp)); exact Kd.VJ Vx.out (fun _ hk => ⟨hk.1.1.1, ⟨hk.1.1.2.1, ⟨hk.1.2, ⟨hk.2, ⟨hk.1.1.2.2.1, ⟨hk.1.1.2.2.2.1, hk.1.1.2.2.2.2⟩⟩⟩⟩⟩⟩)), (by (with_reducible repeat (first | apply Kd.VH | apply Kd.VI | apply Kd.Dp)); exact Kd.VJ Vw.out (fun _ hk => ⟨hk.1.1.1, ⟨hk.1.1.2.1, ⟨hk.1.2, ⟨hk.2, ⟨hk.1.1.2.2.1, ⟨hk.1.1.2.2.2.1, hk.1.1.2.2.2.2⟩⟩⟩⟩⟩⟩)), (by (with_reducible repeat (first | apply Kd.XI | apply Kd.XJ | apply Kd.XR)); exact Kd.XN Va.out (fun _ hk => ⟨hk.1.1.1, ⟨hk.1.2, ⟨hk.2, hk.1.1.2⟩⟩⟩)), (by (with_reducible repeat (first | apply Kd.XI | apply Kd.XJ | apply Kd.XR)); exact Kd.XN SC.out (fun _ hk => ⟨hk.1.1, ⟨hk.1.2.1, ⟨hk.2, hk.1.2.2⟩⟩⟩)), (by (with_reducible repeat (first | apply Kd.XI | apply Kd.XJ | apply Kd.XR)); exact Kd.XN U9.out (fun _ hk => ⟨hk.1.1.1.1, ⟨hk.1.1.2, ⟨hk.1.2, hk.2⟩⟩⟩)), zb63, zb35, zb62, zb10, zb6⟩)
     ·skip
      refine Kd.VC k41 _ 41 ?hg (N := 18) ?hd (xs := ([(⟨ZY, Jl, YH, Yw, Z4, ZW, Jo, Js⟩ : S41)] : List (S41))) (inner := [.int .i64 ZY, .int .i64 Jl, .int .i64 YH, .int .i64 Yw, .int .i64 Z4, .int .i64 ZW, .int .i64 Jo, .int .i64 Js]) (ok := fun _ => True) (okp := fun _ => True) ?hr ?hp (fun _ hk => hk) trivial (Below.refl _ _) (Nat.le_refl _) (by simp) ?_; (case hd => rfl); (case hg => rfl); (case hr => exact zb21); (case hp => exact zb56)
      intro NR w21 ho22 hb hg_ hnew_; clear hg_ hnew_
      (first | rw [← Ny305.out] at ho22 | (simp only [Int.reduceToNat] at ho22; rw [← Ny305.out] at ho22))
      replace Vx := az (Kd.F6 zb46 (Kd.YR ho22) hb); replace Vw := az (Kd.F6 zb45 (Kd.YR ho22) hb); have U9 := az (Kd.XT (Kd.BN (Kd.Jc (Kd.Jc (Kd.BO (M := fun k_ => (P0_2_ k_ ∨ w.heap.size ≤ k_)) ho22 zb163 (fun k_ h_ => .inr h_)) (Kd.J2 zb19)) (Kd.J2 (by (with_reducible repeat (first | apply Kd.XI | apply Kd.XJ | apply Kd.XR)); exact Fw.out))) (g := XO) (o := .cells #[.int .i64 ZY, .int .i64 Jl, .int .i64 YH, .int .i64 Yw, .int .i64 Z4, .int .i64 ZW, .int .i64 Jo, .int .i64 Js] 41 (0, 0)) zb35) (Xq zb6)); replace Va := az (Kd.YT zb19 (Kd.YR ho22) hb); replace Fw := az (Kd.YT (by (with_reducible repeat (first | apply Kd.XI | apply Kd.XJ | apply Kd.XR)); exact Fw.out) (Kd.YR ho22) hb); replace Yv := bb Yv (fun h => by (with_reducible repeat (first | apply bn | apply bd | apply ba)); exact h) hb; replace XV := bb XV (fun h => by (with_reducible repeat (first | apply bn | apply bd | apply ba)); exact h) hb; replace Vs := bb Vs (fun h => by (with_reducible repeat (first | apply bn | apply bd | apply ba)); exact h) hb; replace HK := az (Kept.below (S := (fun k_ => P0_2_ k_)) zb10 hb); replace HB := az (Xe zb6 hb); clear hb ho22; refine hK.out _ _ ⟨bt Yv rfl, bt Yv rfl, bt Yv rfl, bt Yv rfl, bt Yv rfl, bt XV rfl, bt XV rfl, bt XV rfl, bt XV rfl, bt XV rfl, bt XV rfl, bt XV rfl, bt XV rfl⟩ (fun hHeld => ?_); clear hK K; refine YP (a' := ?_) ?_ ?_; rotate_left
      ·show Act.put _ (some 18) _ = _
       simp only [Act.put, List.setIfInBounds_toArray, List.set_cons_zero, List.set_cons_succ, XG, XW]
       rfl
      refine Vr (i := 3) (N := some 16) #[true, true, true, true, true, true, false, false] rfl rfl (Zf HT_.out zb13) (by decide) (fun K hK => ?_); refine Kd.JH k41 (w0 := w0) w0.heap.size (by rfl) (.tmp 13) (.tmp 15) 34 41 (.agg #[(.int .i64 0), (.int .i64 0), (.int .i64 0), (.int .i64 0), (.int .i64 0), (.int .i64 0), (.int .i64 0), (.int .i64 0)]) 64 rfl Try.underlying34 FP rfl (by decide) (by omega) QF WV XE _ _ _ (fun k_ => (P0_2_ k_ ∨ w.heap.size ≤ k_) ∧ some k_ ≠ (.slice Ao8 XE.length co8 : Value).ownBlock ∧ some k_ ≠ (NR : Value).ownBlock ∧ k_ ≠ XO) (fun _ => False) rfl rfl ?aO ?aR (fun _ _ h => h) (fun _ h => h.elim) ?aF ?aB ?aS ?aL ?_
      (case aR => exact zb75)
      (case aB => exact zb6)
      (case aF => exact zb148)
      (case aO => exact (by (with_reducible repeat (first | apply Kd.XI | apply Kd.XJ | apply Kd.XR)); exact Kd.XN Fw.out (fun _ hk => ⟨hk.1.1.1.1, ⟨hk.1.1.2, ⟨hk.2, hk.1.2⟩⟩⟩)))
      (case aS => exact (Xq zb6))
      (case aL => have := LMc4.out; omega)
      intro Rb w23 ho hb hg hat; rw [← Ny302.out] at ho; replace Va := az (Kd.Fj (ok := (fun k_ => (P0_2_ k_ ∨ w.heap.size ≤ k_) ∧ some k_ ≠ (NR : Value).ownBlock ∧ k_ ≠ XO)) (by (with_reducible repeat (first | apply Kd.XI | apply Kd.XJ | apply Kd.XR)); exact Kd.XN Va.out (fun _ hk => ⟨⟨hk.1.1.1, ⟨hk.2, hk.1.1.2⟩⟩, hk.1.2⟩)) hg hat); replace Vx := az (Kd.U0 (ok := (fun k_ => ((P0_2_ k_ ∨ P0_0_ k_ ∨ P0_1_ k_) ∨ w.heap.size ≤ k_) ∧ some k_ ≠ (.slice Ao8 XE.length co8 : Value).ownBlock ∧ some k_ ≠ (NR : Value).ownBlock ∧ k_ ≠ YX ∧ k_ ≠ XO ∧ k_ ≠ Zo)) (by (with_reducible repeat (first | apply Kd.VH | apply Kd.VI | apply Kd.Dp)); exact Kd.VJ Vx.out (fun _ hk => ⟨⟨hk.1.1.1, ⟨hk.1.1.2.1, ⟨hk.2, ⟨hk.1.1.2.2.1, ⟨hk.1.1.2.2.2.1, hk.1.1.2.2.2.2⟩⟩⟩⟩⟩, hk.1.2⟩)) hg hat); replace Vw := az (Kd.U0 (ok := (fun k_ => ((P0_2_ k_ ∨ P0_0_ k_ ∨ P0_1_ k_) ∨ w.heap.size ≤ k_) ∧ some k_ ≠ (.slice Ao8 XE.length co8 : Value).ownBlock ∧ some k_ ≠ (NR : Value).ownBlock ∧ k_ ≠ YX ∧ k_ ≠ XO ∧ k_ ≠ Zo)) (by (with_reducible repeat (first | apply Kd.VH | apply Kd.VI | apply Kd.Dp)); exact Kd.VJ Vw.out (fun _ hk => ⟨⟨hk.1.1.1, ⟨hk.1.1.2.1, ⟨hk.2, ⟨hk.1.1.2.2.1, ⟨hk.1.1.2.2.2.1, hk.1.1.2.2.2.2⟩⟩⟩⟩⟩, hk.1.2⟩)) hg hat); replace Yv := az (Jk (g := YX) (o := .cells #[.slice JJ Y2.length JK, .slice JS Yi.length J6, .slice Ao8 XE.length co8, .int .i64 Yr, .bool Y7] 52 (0, 0)) zb63 hg (Kd.Pf Fw.out Yv.out (by decide))); replace XV := az (Jk (g := XO) (o := .cells #[.int .i64 ZY, .int .i64 Jl, .int .i64 YH, .int .i64 Yw, .int .i64 Z4, .int .i64 ZW, .int .i64 Jo, .int .i64 Js] 41 (0, 0)) zb35 hg (Kd.Ql Fw.out (fun _ hk => hk.1.2)))
      replace Vs := az (Jk (g := Zo) (o := .cells #[.slice none 0 0, .slice none 0 0, .slice none 0 0, .int .i64 0, .bool false] 52 (0, 0)) zb62 hg (Kd.Pf Fw.out Vs.out (by decide))); replace U9 := az (Kd.Fj (ok := (fun k_ => (P0_2_ k_ ∨ w.heap.size ≤ k_) ∧ some k_ ≠ (.slice Ao8 XE.length co8 : Value).ownBlock ∧ k_ ≠ XO)) (by (with_reducible repeat (first | apply Kd.XI | apply Kd.XJ | apply Kd.XR)); exact Kd.XN U9.out (fun _ hk => ⟨⟨hk.1.1.1.1, ⟨hk.1.1.2, hk.2⟩⟩, hk.1.2⟩)) hg hat); replace HB := az (hb); replace HK := az (Kept.U1 (S := (fun k_ => P0_2_ k_)) hg zb10 (fun k_ e_ => (Fw.out.1 k_ e_).1.1.1.1)); have SC := az (ho); clear Fw; clear ho hb hg hat; refine hK.out _ _ ⟨bt Yv rfl, bt Yv rfl, bt Yv rfl, bt Yv rfl, bt Yv rfl, bt XV rfl, bt XV rfl, bt XV rfl, bt XV rfl, bt XV rfl, bt XV rfl, bt XV rfl, bt XV rfl⟩ (fun hHeld => ?_); clear hK K; refine YP (a' := ?_) ?_ ?_; rotate_left
      ·show Act.put _ (some 16) _ = _
       simp only [Act.put, List.setIfInBounds_toArray, List.set_cons_zero, List.set_cons_succ, XG, XW]
       rfl
      exact YP zb78 (hCont (QF, Rb, NR) _ ⟨hHeld, zb106, zb105, zb125, zb83, zb124, zb63, zb35, zb62, zb10, zb6⟩)
    ·skip
     refine Kd.VC k41 _ 41 ?hg (N := 18) ?hd (xs := ([(⟨ZY, Jl, YH, Yw, Z4, ZW, Jo, Js⟩ : S41)] : List (S41))) (inner := [.int .i64 ZY, .int .i64 Jl, .int .i64 YH, .int .i64 Yw, .int .i64 Z4, .int .i64 ZW, .int .i64 Jo, .int .i64 Js]) (ok := fun _ => True) (okp := fun _ => True) ?hr ?hp (fun _ hk => hk) trivial (Below.refl _ _) (Nat.le_refl _) (by simp) ?_; (case hd => rfl); (case hg => rfl); (case hr => exact zb21); (case hp => exact zb56)
     intro NR w19 ho20 hb hg_ hnew_; clear hg_ hnew_
     (first | rw [← Ny305.out] at ho20 | (simp only [Int.reduceToNat] at ho20; rw [← Ny305.out] at ho20))
     replace Vx := az (Kd.F6 zb46 (Kd.YR ho20) hb); replace Vw := az (Kd.F6 zb45 (Kd.YR ho20) hb); have U9 := az (Kd.XT (Kd.BN (Kd.Jc (Kd.BO (M := fun k_ => (P0_2_ k_ ∨ w.heap.size ≤ k_)) ho20 zb163 (fun k_ h_ => .inr h_)) (Kd.J2 zb19)) (g := XO) (o := .cells #[.int .i64 ZY, .int .i64 Jl, .int .i64 YH, .int .i64 Yw, .int .i64 Z4, .int .i64 ZW, .int .i64 Jo, .int .i64 Js] 41 (0, 0)) zb35) (Xq zb6)); replace Va := az (Kd.YT zb19 (Kd.YR ho20) hb); replace Yv := bb Yv (fun h => by (with_reducible repeat (first | apply bn | apply bd | apply ba)); exact h) hb; replace XV := bb XV (fun h => by (with_reducible repeat (first | apply bn | apply bd | apply ba)); exact h) hb; replace Vs := bb Vs (fun h => by (with_reducible repeat (first | apply bn | apply bd | apply ba)); exact h) hb; replace HK := az (Kept.below (S := (fun k_ => P0_2_ k_)) zb10 hb); replace HB := az (Xe zb6 hb); clear hb ho20; refine hK.out _ _ ⟨bt Yv rfl, bt Yv rfl, bt Yv rfl, bt Yv rfl, bt Yv rfl, bt XV rfl, bt XV rfl, bt XV rfl, bt XV rfl, bt XV rfl, bt XV rfl, bt XV rfl, bt XV rfl⟩ (fun hHeld => ?_); clear hK K; refine YP (a' := ?_) ?_ ?_; rotate_left
     ·show Act.put _ (some 18) _ = _
      simp only [Act.put, List.setIfInBounds_toArray, List.set_cons_zero, List.set_cons_succ, XG, XW]
      rfl
     refine Vr (i := 0) (N := some 13) #[true, true, true, false, true, true, false, false] rfl rfl (Zf HT_.out zb13) (by decide) (fun K hK => ?_)
     refine Kd.VC k41 _ 41 ?hg (N := 13) ?hd (xs := ([] : List (S41))) (inner := []) (ok := fun _ => True) (okp := fun _ => True) ?hr ?hp (fun _ hk => hk) trivial (Below.refl _ _) (Nat.le_refl _) (by simp) ?_; (case hd => rfl); (case hg => rfl); (case hr => exact zb21); (case hp => exact zb121)
     intro QF w21 ho22 hb hg_ hnew_; clear hg_ hnew_
     (first | rw [← Ny299.out] at ho22 | (simp only [Int.reduceToNat] at ho22; rw [← Ny299.out] at ho22))
     replace Vx := az (Kd.F6 zb46 (Kd.YR ho22) hb); replace Vw := az (Kd.F6 zb45 (Kd.YR ho22) hb); have Fw := az (Kd.XT (Kd.BN (Kd.Jc (Kd.Jc (Kd.BO (M := fun k_ => (P0_2_ k_ ∨ w.heap.size ≤ k_)) ho22 zb163 (fun k_ h_ => .inr h_)) (Kd.J2 zb19)) (Kd.J2 zb82)) (g := XO) (o := .cells #[.int .i64 ZY, .int .i64 Jl, .int .i64 YH, .int .i64 Yw, .int .i64 Z4, .int .i64 ZW, .int .i64 Jo, .int .i64 Js] 41 (0, 0)) zb35) (Xq zb6)); replace Va := az (Kd.YT zb19 (Kd.YR ho22) hb); replace U9 := az (Kd.YT zb82 (Kd.YR ho22) hb); replace Yv := bb Yv (fun h => by (with_reducible repeat (first | apply bn | apply bd | apply ba)); exact h) hb; replace XV := bb XV (fun h => by (with_reducible repeat (first | apply bn | apply bd | apply ba)); exact h) hb; replace Vs := bb Vs (fun h => by (with_reducible repeat (first | apply bn | apply bd | apply ba)); exact h) hb; replace HK := az (Kept.below (S := (fun k_ => P0_2_ k_)) zb10 hb); replace HB := az (Xe zb6 hb); clear hb ho22; refine hK.out _ _ ⟨bt Yv rfl, bt Yv rfl, bt Yv rfl, bt Yv rfl, bt Yv rfl, bt XV rfl, bt XV rfl, bt XV rfl, bt XV rfl, bt XV rfl, bt XV rfl, bt XV rfl, bt XV rfl⟩ (fun hHeld => ?_); clear hK K; refine YP (a' := ?_) ?_ ?_; rotate_left
     ·show Act.put _ (some 13) _ = _
      simp only [Act.put, List.setIfInBounds_toArray, List.set_cons_zero, List.set_cons_succ, XG, XW]
      rfl
     refine Vr (i := 3) (N := some 16) #[true, true, true, true, true, true, false, false] rfl rfl (Zf HT_.out zb13) (by decide) (fun K hK => ?_); refine Kd.JH k41 (w0 := w0) w0.heap.size (by rfl) (.tmp 13) (.tmp 15) 34 41 (.agg #[(.int .i64 0), (.int .i64 0), (.int .i64 0), (.int .i64 0), (.int .i64 0), (.int .i64 0), (.int .i64 0), (.int .i64 0)]) 64 rfl Try.underlying34 FP rfl (by decide) (by omega) QF WV XE _ _ _ (fun k_ => (P0_2_ k_ ∨ w.heap.size ≤ k_) ∧ some k_ ≠ (.slice Ao8 XE.length co8 : Value).ownBlock ∧ some k_ ≠ (NR : Value).ownBlock ∧ k_ ≠ XO) (fun _ => False) rfl rfl ?aO ?aR (fun _ _ h => h) (fun _ h => h.elim) ?aF ?aB ?aS ?aL ?_
     (case aR => exact zb75)
     (case aB => exact zb6)
     (case aF => exact zb148)
     (case aO => exact (by (with_reducible repeat (first | apply Kd.XI | apply Kd.XJ | apply Kd.XR)); exact Kd.XN Fw.out (fun _ hk => ⟨hk.1.1.1.1, ⟨hk.1.1.2, ⟨hk.1.2, hk.2⟩⟩⟩)))
     (case aS => exact (Xq zb6))
     (case aL => have := LMc4.out; omega)
     intro Rb w23 ho hb hg hat; rw [← Ny302.out] at ho; replace Va := az (Kd.Fj (ok := (fun k_ => (P0_2_ k_ ∨ w.heap.size ≤ k_) ∧ some k_ ≠ (NR : Value).ownBlock ∧ k_ ≠ XO)) (by (with_reducible repeat (first | apply Kd.XI | apply Kd.XJ | apply Kd.XR)); exact Kd.XN Va.out (fun _ hk => ⟨⟨hk.1.1.1, ⟨hk.1.2, hk.1.1.2⟩⟩, hk.2⟩)) hg hat); replace Vx := az (Kd.U0 (ok := (fun k_ => ((P0_2_ k_ ∨ P0_0_ k_ ∨ P0_1_ k_) ∨ w.heap.size ≤ k_) ∧ some k_ ≠ (.slice Ao8 XE.length co8 : Value).ownBlock ∧ some k_ ≠ (NR : Value).ownBlock ∧ k_ ≠ YX ∧ k_ ≠ XO ∧ k_ ≠ Zo)) (by (with_reducible repeat (first | apply Kd.VH | apply Kd.VI | apply Kd.Dp)); exact Kd.VJ Vx.out (fun _ hk => ⟨⟨hk.1.1.1, ⟨hk.1.1.2.1, ⟨hk.1.2, ⟨hk.1.1.2.2.1, ⟨hk.1.1.2.2.2.1, hk.1.1.2.2.2.2⟩⟩⟩⟩⟩, hk.2⟩)) hg hat); replace Vw := az (Kd.U0 (ok := (fun k_ => ((P0_2_ k_ ∨ P0_0_ k_ ∨ P0_1_ k_) ∨ w.heap.size ≤ k_) ∧ some k_ ≠ (.slice Ao8 XE.length co8 : Value).ownBlock ∧ some k_ ≠ (NR : Value).ownBlock ∧ k_ ≠ YX ∧ k_ ≠ XO ∧ k_ ≠ Zo)) (by (with_reducible repeat (first | apply Kd.VH | apply Kd.VI | apply Kd.Dp)); exact Kd.VJ Vw.out (fun _ hk => ⟨⟨hk.1.1.1, ⟨hk.1.1.2.1, ⟨hk.1.2, ⟨hk.1.1.2.2.1, ⟨hk.1.1.2.2.2.1, hk.1.1.2.2.2.2⟩⟩⟩⟩⟩, hk.2⟩)) hg hat); replace Yv := az (Jk (g := YX) (o := .cells #[.slice JJ Y2.length JK, .slice JS Yi.length J6, .slice Ao8 XE.length co8, .int .i64 Yr, .bool Y7] 52 (0, 0)) zb63 hg (Kd.Pf Fw.out Yv.out (by decide))); replace XV := az (Jk (g := XO) (o := .cells #[.int .i64 ZY, .int .i64 Jl, .int .i64 YH, .int .i64 Yw, .int .i64 Z4, .int .i64 ZW, .int .i64 Jo, .int .i64 Js] 41 (0, 0)) zb35 hg (Kd.Ql Fw.out (fun _ hk => hk.2)))
     replace Vs := az (Jk (g := Zo) (o := .cells #[.slice none 0 0, .slice none 0 0, .slice none 0 0, .int .i64 0, .bool false] 52 (0, 0)) zb62 hg (Kd.Pf Fw.out Vs.out (by decide))); replace U9 := az (Kd.Fj (ok := (fun k_ => (P0_2_ k_ ∨ w.heap.size ≤ k_) ∧ some k_ ≠ (.slice Ao8 XE.length co8 : Value).ownBlock ∧ k_ ≠ XO)) (by (with_reducible repeat (first | apply Kd.XI | apply Kd.XJ | apply Kd.XR)); exact Kd.XN U9.out (fun _ hk => ⟨⟨hk.1.1.1.1, ⟨hk.1.1.2, hk.1.2⟩⟩, hk.2⟩)) hg hat); replace HB := az (hb); replace HK := az (Kept.U1 (S := (fun k_ => P0_2_ k_)) hg zb10 (fun k_ e_ => (Fw.out.1 k_ e_).1.1.1.1)); have SC := az (ho); clear Fw; clear ho hb hg hat; refine hK.out _ _ ⟨bt Yv rfl, bt Yv rfl, bt Yv rfl, bt Yv rfl, bt Yv rfl, bt XV rfl, bt XV rfl, bt XV rfl, bt XV rfl, bt XV rfl, bt XV rfl, bt XV rfl, bt XV rfl⟩ (fun hHeld => ?_); clear hK K; refine YP (a' := ?_) ?_ ?_; rotate_left
     ·show Act.put _ (some 16) _ = _
      simp only [Act.put, List.setIfInBounds_toArray, List.set_cons_zero, List.set_cons_succ, XG, XW]
      rfl
     exact YP zb78 (hCont (QF, Rb, NR) _ ⟨hHeld, zb106, zb105, zb125, zb83, zb124, zb63, zb35, zb62, zb10, zb6⟩)
   rintro ⟨QF, Rb, NR⟩ w24 ⟨hS_, h0_, h1_, h2_, h3_, h4_, h5_, h6_, h7_, h8_, h9_⟩
   replace Vx : Aside0 (Kd.V k25 25 w24 w0.heap.size (fun k_ => ((P0_2_ k_ ∨ P0_0_ k_ ∨ P0_1_ k_) ∨ w.heap.size ≤ k_) ∧ some k_ ≠ (.slice Ao8 XE.length co8 : Value).ownBlock ∧ some k_ ≠ (Rb : Value).ownBlock ∧ some k_ ≠ (NR : Value).ownBlock ∧ k_ ≠ YX ∧ k_ ≠ XO ∧ k_ ≠ Zo) (.slice JJ Y2.length JK) Y2) := ⟨h0_⟩
   replace Vw : Aside0 (Kd.V k25 25 w24 w0.heap.size (fun k_ => ((P0_2_ k_ ∨ P0_0_ k_ ∨ P0_1_ k_) ∨ w.heap.size ≤ k_) ∧ some k_ ≠ (.slice Ao8 XE.length co8 : Value).ownBlock ∧ some k_ ≠ (Rb : Value).ownBlock ∧ some k_ ≠ (NR : Value).ownBlock ∧ k_ ≠ YX ∧ k_ ≠ XO ∧ k_ ≠ Zo) (.slice JS Yi.length J6) Yi) := ⟨h1_⟩
   replace Va : Aside0 (Kd.R k41 41 w24 w0.heap.size (fun k_ => (P0_2_ k_ ∨ w.heap.size ≤ k_) ∧ some k_ ≠ (Rb : Value).ownBlock ∧ some k_ ≠ (NR : Value).ownBlock ∧ k_ ≠ XO) (.slice Ao8 XE.length co8) XE) := ⟨h2_⟩
   have SC : Aside0 (Kd.R k41 41 w24 w0.heap.size (fun k_ => (P0_2_ k_ ∨ w.heap.size ≤ k_) ∧ some k_ ≠ (.slice Ao8 XE.length co8 : Value).ownBlock ∧ some k_ ≠ (NR : Value).ownBlock ∧ k_ ≠ XO) Rb Nl) := ⟨h3_⟩
   have U9 : Aside0 (Kd.R k41 41 w24 w0.heap.size (fun k_ => (P0_2_ k_ ∨ w.heap.size ≤ k_) ∧ some k_ ≠ (.slice Ao8 XE.length co8 : Value).ownBlock ∧ some k_ ≠ (Rb : Value).ownBlock ∧ k_ ≠ XO) NR Uo) := ⟨h4_⟩
   replace Yv : Aside0 (w24.heap[YX]? = some (.cells #[.slice JJ Y2.length JK, .slice JS Yi.length J6, .slice Ao8 XE.length co8, .int .i64 Yr, .bool Y7] 52 (0, 0))) := ⟨h5_⟩
   replace XV : Aside0 (w24.heap[XO]? = some (.cells #[.int .i64 ZY, .int .i64 Jl, .int .i64 YH, .int .i64 Yw, .int .i64 Z4, .int .i64 ZW, .int .i64 Jo, .int .i64 Js] 41 (0, 0))) := ⟨h6_⟩
   replace Vs : Aside0 (w24.heap[Zo]? = some (.cells #[.slice none 0 0, .slice none 0 0, .slice none 0 0, .int .i64 0, .bool false] 52 (0, 0))) := ⟨h7_⟩
   replace HK : Aside0 (Kept w w24 (fun k_ => P0_2_ k_)) := ⟨h8_⟩
   replace HB : Aside0 (Below w0.heap.size w0 w24) := ⟨h9_⟩
   clear h0_ h1_ h2_ h3_ h4_ h5_ h6_ h7_ h8_ h9_; have hHeld : w24.cell? ⟨YX, 0, none⟩ = some (.slice JJ Y2.length JK) ∧ w24.cell? ⟨YX, 1, none⟩ = some (.slice JS Yi.length J6) ∧ w24.cell? ⟨YX, 2, none⟩ = some (.slice Ao8 XE.length co8) ∧ w24.cell? ⟨YX, 3, none⟩ = some (.int .i64 Yr) ∧ w24.cell? ⟨YX, 4, none⟩ = some (.bool Y7) ∧ w24.cell? ⟨XO, 0, none⟩ = some (.int .i64 ZY) ∧ w24.cell? ⟨XO, 1, none⟩ = some (.int .i64 Jl) ∧ w24.cell? ⟨XO, 2, none⟩ = some (.int .i64 YH) ∧ w24.cell? ⟨XO, 3, none⟩ = some (.int .i64 Yw) ∧ w24.cell? ⟨XO, 4, none⟩ = some (.int .i64 Z4) ∧ w24.cell? ⟨XO, 5, none⟩ = some (.int .i64 ZW) ∧ w24.cell? ⟨XO, 6, none⟩ = some (.int .i64 Jo) ∧ w24.cell? ⟨XO, 7, none⟩ = some (.int .i64 Js) := hS_; obtain ⟨XhA, XhB, eo26⟩ := Kd.Xx U9.out
   (first | subst eo26 | (injection eo26 with f1_ f2_ f3_; have f4_ := f1_.symm; have f5_ := f3_.symm; clear f1_ f2_ f3_; subst f4_; subst f5_))
   refine YP (a' := ?_) ?_ ?_; rotate_left
   ·simp only [Lu, Act.put, List.setIfInBounds_toArray, List.set_cons_zero, List.set_cons_succ]
    rfl
   refine Vr (i := 6) (N := some 19) #[true, true, true, true, true, true, true, false] rfl rfl (Zf HT_.out zb13) (by decide) (fun K hK => ?_); refine Kd.JH k41 (w0 := w0) w0.heap.size (by rfl) (.tmp 16) (.tmp 18) 34 41 (.agg #[(.int .i64 0), (.int .i64 0), (.int .i64 0), (.int .i64 0), (.int .i64 0), (.int .i64 0), (.int .i64 0), (.int .i64 0)]) 64 rfl Try.underlying34 FP rfl (by decide) (by omega) Rb Nl Uo _ _ _ (fun k_ => (P0_2_ k_ ∨ w.heap.size ≤ k_) ∧ some k_ ≠ (.slice Ao8 XE.length co8 : Value).ownBlock ∧ some k_ ≠ (.slice XhA Uo.length XhB : Value).ownBlock ∧ k_ ≠ XO) (fun _ => False) rfl rfl ?aO ?aR (fun _ _ h => h) (fun _ h => h.elim) ?aF ?aB ?aS ?aL ?_
   (case aR => repeat (first | exact (Kd.Xi U9.out).2.2 | (with_reducible refine Kd.Zh ?_ _) | (with_reducible refine Kd.Zi ?_ _) | (with_reducible refine Kd.ZJ ?_)))
   (case aB => exact zb6)
   (case aF => exact zb148)
   (case aO => exact zb83)
   (case aS => exact (Xq zb6))
   (case aL => have := LMc5.out; omega)
   intro v309 w25 ho hb hg hat; rw [← Ny308.out] at ho; replace Va := az (Kd.Fj (ok := (fun k_ => (P0_2_ k_ ∨ w.heap.size ≤ k_) ∧ some k_ ≠ (.slice XhA Uo.length XhB : Value).ownBlock ∧ k_ ≠ XO)) (by (with_reducible repeat (first | apply Kd.XI | apply Kd.XJ | apply Kd.XR)); exact Kd.XN Va.out (fun _ hk => ⟨⟨hk.1, ⟨hk.2.2.1, hk.2.2.2⟩⟩, hk.2.1⟩)) hg hat); replace Vx := az (Kd.U0 (ok := (fun k_ => ((P0_2_ k_ ∨ P0_0_ k_ ∨ P0_1_ k_) ∨ w.heap.size ≤ k_) ∧ some k_ ≠ (.slice Ao8 XE.length co8 : Value).ownBlock ∧ some k_ ≠ (.slice XhA Uo.length XhB : Value).ownBlock ∧ k_ ≠ YX ∧ k_ ≠ XO ∧ k_ ≠ Zo)) (by (with_reducible repeat (first | apply Kd.VH | apply Kd.VI | apply Kd.Dp)); exact Kd.VJ Vx.out (fun _ hk => ⟨⟨hk.1, ⟨hk.2.1, ⟨hk.2.2.2.1, ⟨hk.2.2.2.2.1, ⟨hk.2.2.2.2.2.1, hk.2.2.2.2.2.2⟩⟩⟩⟩⟩, hk.2.2.1⟩)) hg hat); replace Vw := az (Kd.U0 (ok := (fun k_ => ((P0_2_ k_ ∨ P0_0_ k_ ∨ P0_1_ k_) ∨ w.heap.size ≤ k_) ∧ some k_ ≠ (.slice Ao8 XE.length co8 : Value).ownBlock ∧ some k_ ≠ (.slice XhA Uo.length XhB : Value).ownBlock ∧ k_ ≠ YX ∧ k_ ≠ XO ∧ k_ ≠ Zo)) (by (with_reducible repeat (first | apply Kd.VH | apply Kd.VI | apply Kd.Dp)); exact Kd.VJ Vw.out (fun _ hk => ⟨⟨hk.1, ⟨hk.2.1, ⟨hk.2.2.2.1, ⟨hk.2.2.2.2.1, ⟨hk.2.2.2.2.2.1, hk.2.2.2.2.2.2⟩⟩⟩⟩⟩, hk.2.2.1⟩)) hg hat); replace Yv := az (Jk (g := YX) (o := .cells #[.slice JJ Y2.length JK, .slice JS Yi.length J6, .slice Ao8 XE.length co8, .int .i64 Yr, .bool Y7] 52 (0, 0)) zb63 hg (Kd.Pf SC.out Yv.out (by decide)))
   replace XV := az (Jk (g := XO) (o := .cells #[.int .i64 ZY, .int .i64 Jl, .int .i64 YH, .int .i64 Yw, .int .i64 Z4, .int .i64 ZW, .int .i64 Jo, .int .i64 Js] 41 (0, 0)) zb35 hg (Kd.Ql SC.out (fun _ hk => hk.2.2.2))); replace Vs := az (Jk (g := Zo) (o := .cells #[.slice none 0 0, .slice none 0 0, .slice none 0 0, .int .i64 0, .bool false] 52 (0, 0)) zb62 hg (Kd.Pf SC.out Vs.out (by decide))); replace U9 := az (Kd.Fj (ok := (fun k_ => (P0_2_ k_ ∨ w.heap.size ≤ k_) ∧ some k_ ≠ (.slice Ao8 XE.length co8 : Value).ownBlock ∧ k_ ≠ XO)) (by (with_reducible repeat (first | apply Kd.XI | apply Kd.XJ | apply Kd.XR)); exact Kd.XN U9.out (fun _ hk => ⟨⟨hk.1, ⟨hk.2.1, hk.2.2.2⟩⟩, hk.2.2.1⟩)) hg hat); replace HB := az (hb); replace HK := az (Kept.U1 (S := (fun k_ => P0_2_ k_)) hg zb10 (fun k_ e_ => (SC.out.1 k_ e_).1)); have Xca := az (ho); clear SC; clear ho hb hg hat; refine hK.out _ _ ⟨bt Yv rfl, bt Yv rfl, bt Yv rfl, bt Yv rfl, bt Yv rfl, bt XV rfl, bt XV rfl, bt XV rfl, bt XV rfl, bt XV rfl, bt XV rfl, bt XV rfl, bt XV rfl⟩ (fun hHeld => ?_); clear hK K; refine YP (a' := ?_) ?_ ?_; rotate_left
   ·show Act.put _ (some 19) _ = _
    simp only [Act.put, List.setIfInBounds_toArray, List.set_cons_zero, List.set_cons_succ, XG, XW]
    rfl
   refine Nc (i := 7) (N := some 6) (v := ?_) (a' := ?_) #[true, true, true, true, true, true, true, true] rfl rfl (U5 HT_.out zb13) (fun _ _ _ h => h) (Or.inl ⟨by rfl, ?_⟩) ?_ ?_; rotate_left
   ·intro w'
    go_simp
    with_reducible rfl
   rotate_left
   ·simp only [Act.put, List.setIfInBounds_toArray, List.set_cons_zero, List.set_cons_succ, XG, XW]
    rfl
   refine J4 (J9 HT_.out zb13) ?_; obtain ⟨NS, NT, eo27⟩ := Kd.Xx Xca.out; subst eo27; have FD := Kd.Fa ED.out HK.out (fun j hj hp => (ZD.out j hj).2 (ZL.out j hp)); have FM := Kd.Fa EM.out HK.out (fun j hj hp => (ZM.out j hj).2 (ZL.out j hp)); have FL := Kd.Ul rfl Va.out; have FN := Kd.Ul rfl Xca.out
   have ZN := az (show ∀ j, some j = (Value.slice NS Jm.length NT).ownBlock → w.heap.size ≤ j from fun j hj => by
    have h_ := Xca.out.1 j hj.symm
    rcases h_.1 with h1_ | h1_
    ·exact absurd (ZL.out j h1_) h_.2.1
    ·exact h1_)
   refine Qe (fun w' => Kd.R k25 25 w' w0.heap.size P0_0_ (.slice JJ Y2.length JK) Y2 ∧ Kd.R k25 25 w' w0.heap.size P0_1_ (.slice JS Yi.length J6) Yi ∧ Kd.R k41 41 w' w0.heap.size (fun j => some j = (Value.slice Ao8 XE.length co8).ownBlock) (.slice Ao8 XE.length co8) XE ∧ Kd.R k41 41 w' w0.heap.size (fun j => some j = (Value.slice NS Jm.length NT).ownBlock) (.slice NS Jm.length NT) Jm ∧ w'.heap[YX]? = some (.cells #[.slice JJ Y2.length JK, .slice JS Yi.length J6, .slice Ao8 XE.length co8, .int .i64 Yr, .bool Y7] 52 (0, 0)) ∧ w'.heap[XO]? = some (.cells #[.int .i64 ZY, .int .i64 Jl, .int .i64 YH, .int .i64 Yw, .int .i64 Z4, .int .i64 ZW, .int .i64 Jo, .int .i64 Js] 41 (0, 0)) ∧ w'.heap[Zo]? = some (.cells #[.slice none 0 0, .slice none 0 0, .slice none 0 0, .int .i64 0, .bool false] 52 (0, 0)) ∧ Kept w w' (fun k_ => P0_2_ k_) ∧ Below w0.heap.size w0 w') ⟨FD, FM, FL, FN, Yv.out, XV.out, Vs.out, HK.out, HB.out⟩ ?_; clear FD FM FL FN Vx Vw Va U9 Xca Yv XV Vs HK HB hHeld hs0_0 hs0_1 ho0_2 ED EM EL hcw_ hfw_
   try clear Ic Ie Ig Ih Ii Ij Ik Il Im Io XbQ XbR XbS XbT XbU Xh4 Xh5 Xh6 XbV XbW XbX XbY XbZ Xh7 Xh8 Xh9
   rintro w1 ⟨hFD, hFM, hFL, hFN, hBE, hBR, hBQ, hHK, hHB⟩; have GD := az hFD; have GM := az hFM; have GL := az hFL; have GN := az hFN; have BE := az hBE; have BR := az hBR; have BQ := az hBQ; have HK := az hHK; have HB := az hHB; have H' := az H; clear hFD hFM hFL hFN hBE hBR hBQ hHK hHB H
   go_wp2_with fail
   refine (X8.calls k _ _ Jm NP _ (Kd.Xi GN.out).2.2 (Kd.Xi GN.out).2.1 A6.out).mono ?_; rintro e w2 ⟨rfl, hb⟩; have KD := az (Kd.Xz GD.out hb); have KM := az (Kd.Xz GM.out hb); have KL := az (Kd.Xz GL.out hb); have KN := az (Kd.Xz GN.out hb); have CE := az (Z7 BE.out hb); have CR := az (Z7 BR.out hb); have CQ := az (Z7 BQ.out hb); have LK := az (HK.out.below hb); have LB := az (Xe HB.out hb); clear hb GD GM GL GN BE BR BQ HK HB; have x0 : w2.cell? ⟨YX, 0, none⟩ = some (.slice JJ Y2.length JK) := bt CE rfl; have x1 : w2.cell? ⟨YX, 1, none⟩ = some (.slice JS Yi.length J6) := bt CE rfl; have x2 : w2.cell? ⟨YX, 2, none⟩ = some (.slice Ao8 XE.length co8) := bt CE rfl; have x3 : w2.cell? ⟨YX, 3, none⟩ = some (.int .i64 Yr) := bt CE rfl; have x4 : w2.cell? ⟨YX, 4, none⟩ = some (.bool Y7) := bt CE rfl; have xf := Xf CE.out 2; have q0 : w2.cell? ⟨Zo, 0, none⟩ = some (.slice none 0 0) := bt CQ rfl; have q1 : w2.cell? ⟨Zo, 1, none⟩ = some (.slice none 0 0) := bt CQ rfl; have q2 : w2.cell? ⟨Zo, 2, none⟩ = some (.slice none 0 0) := bt CQ rfl; have q3 : w2.cell? ⟨Zo, 3, none⟩ = some (.int .i64 0) := bt CQ rfl; have q4 : w2.cell? ⟨Zo, 4, none⟩ = some (.bool false) := bt CQ rfl; have qf0 := Xf CQ.out 0; have qf1 := Xf CQ.out 1; have qf2 := Xf CQ.out 2; have qf3 := Xf CQ.out 3; have qf4 := Xf CQ.out 4; have H := H'.out; clear H'
   by_cases c7 : (wrap64 ((Jm.length : Int) + NP)) > 150
   ·rw [if_pos c7] at H
    have c7b0 : decide (150 < (wrap64 ((Jm.length : Int) + NP))) = true := decide_eq_true c7; clear c7; simp only [Option.some.injEq, Prod.mk.injEq] at H; obtain ⟨rfl, rfl, rfl, rfl, rfl, rfl⟩ := H
    go_wp2
    refine bodyPost_ret (v := .tuple #[.agg #[.slice JJ Y2.length JK, .slice JS Yi.length J6, .slice Ao8 XE.length co8, .int .i64 Yr, .bool Y7], .bool false]) (by simp [results, Try.results153, go_sem, *]) rfl ⟨_, rfl, eR5 KD.out CQ.out (by decide), ⟨w.heap.size, Nat.le_refl _, Kd.XN (eR5 KM.out CQ.out (by decide)) (fun j hj => .inl hj), eR5 KL.out CQ.out (by decide), .inl rfl⟩, ?_, ?_⟩
    ·exact Xc (Xc (Xc (Xc (Xc LB.out Mo.out) Mo.out) Mo.out) Mo.out) Mo.out
    ·exact (((((LK.out.mono (fun j hj => .inl (ZL.out j hj))).setCell (p := ⟨Zo, 0, none⟩) (.inr U8.out) _).setCell (p := ⟨Zo, 1, none⟩) (.inr U8.out) _).setCell (p := ⟨Zo, 2, none⟩) (.inr U8.out) _).setCell (p := ⟨Zo, 3, none⟩) (.inr U8.out) _).setCell (p := ⟨Zo, 4, none⟩) (.inr U8.out) _
   ·rw [if_neg c7] at H
    have c7b0 : decide (150 < (wrap64 ((Jm.length : Int) + NP))) = false := decide_eq_false c7; clear c7; replace H := Option.bind_eq_some_iff.mp H; obtain ⟨NQ, Xe6, H⟩ := H; have A31 := az Xe6; have H' := az H; clear Xe6 H; have y0 : w2.cell? ⟨XO, 0, none⟩ = some (.int .i64 ZY) := bt CR rfl; have y1 : w2.cell? ⟨XO, 1, none⟩ = some (.int .i64 Jl) := bt CR rfl; have y2 : w2.cell? ⟨XO, 2, none⟩ = some (.int .i64 YH) := bt CR rfl; have y3 : w2.cell? ⟨XO, 3, none⟩ = some (.int .i64 Yw) := bt CR rfl; have y4 : w2.cell? ⟨XO, 4, none⟩ = some (.int .i64 Z4) := bt CR rfl; have y5 : w2.cell? ⟨XO, 5, none⟩ = some (.int .i64 ZW) := bt CR rfl; have y6 : w2.cell? ⟨XO, 6, none⟩ = some (.int .i64 Jo) := bt CR rfl; have y7 : w2.cell? ⟨XO, 7, none⟩ = some (.int .i64 Js) := bt CR rfl
    go_wp2_with fail
    refine (Zg.calls ZY NQ _ A31.out).mono ?_; rintro e w3 ⟨rfl, nd, hw3⟩
    have hb : Below (w2.setCell ⟨YX, 2, none⟩ (.slice NS Jm.length NT)).heap.size (w2.setCell ⟨YX, 2, none⟩ (.slice NS Jm.length NT)) w3 := by rw [hw3]; exact XF (Below.refl _ _) nd
    clear hw3; have KD3 := az (Kd.Xz (eR1 KD.out CE.out (by decide)) hb); have KM3 := az (Kd.Xz (eR1 KM.out CE.out (by decide)) hb); have KN3 := az (Kd.Xz (eR1 KN.out CE.out (by decide)) hb); have CE3 := az (Z7 (X9 CE.out 2 (.slice NS Jm.length NT) rfl) hb); have CR3 := az (Z7 (FB CR.out Oh.out (.slice NS Jm.length NT)) hb); have CQ3 := az (Z7 (FB CQ.out Oi.out (.slice NS Jm.length NT)) hb); have LK3 := az ((LK.out.setCell (p := ⟨YX, 2, none⟩) (.inr XbN.out) (.slice NS Jm.length NT)).below hb); have LB3 := az (Xe (Xc LB.out XpB.out) hb); clear hb KD KM KL KN CE CR CQ LK LB x0 x1 x2 x3 x4 xf q0 q1 q2 q3 q4 qf0 qf1 qf2 qf3 qf4 y0 y1 y2 y3 y4 y5 y6 y7; have H := H'.out; clear H'; have hlt3 := az (Dq CQ3.out)
    by_cases c32 : NQ = true
    rotate_left
    ·rw [if_neg c32] at H
     obtain rfl : NQ = false := by simpa using c32
     clear c32; simp only [Option.some.injEq, Prod.mk.injEq] at H; obtain ⟨rfl, rfl, rfl, rfl, rfl, rfl⟩ := H; have x0 : w3.cell? ⟨YX, 0, none⟩ = some (.slice JJ Y2.length JK) := bt CE3 rfl; have x1 : w3.cell? ⟨YX, 1, none⟩ = some (.slice JS Yi.length J6) := bt CE3 rfl; have x2 : w3.cell? ⟨YX, 2, none⟩ = some (.slice NS Jm.length NT) := bt CE3 rfl; have x3 : w3.cell? ⟨YX, 3, none⟩ = some (.int .i64 Yr) := bt CE3 rfl; have x4 : w3.cell? ⟨YX, 4, none⟩ = some (.bool Y7) := bt CE3 rfl; have q0 : w3.cell? ⟨Zo, 0, none⟩ = some (.slice none 0 0) := bt CQ3 rfl; have q1 : w3.cell? ⟨Zo, 1, none⟩ = some (.slice none 0 0) := bt CQ3 rfl; have q2 : w3.cell? ⟨Zo, 2, none⟩ = some (.slice none 0 0) := bt CQ3 rfl; have q3 : w3.cell? ⟨Zo, 3, none⟩ = some (.int .i64 0) := bt CQ3 rfl; have q4 : w3.cell? ⟨Zo, 4, none⟩ = some (.bool false) := bt CQ3 rfl; have qf0 := Xf CQ3.out 0; have qf1 := Xf CQ3.out 1; have qf2 := Xf CQ3.out 2; have qf3 := Xf CQ3.out 3; have qf4 := Xf CQ3.out 4
     go_wp2
     refine bodyPost_ret (v := .tuple #[.agg #[.slice JJ Y2.length JK, .slice JS Yi.length J6, .slice NS Jm.length NT, .int .i64 Yr, .bool Y7], .bool true]) (by simp [results, Try.results153, go_sem, *]) rfl ⟨_, rfl, eR5 KD3.out CQ3.out (by decide), ⟨w3.heap.size, LK3.out.1, Kd.XN (eR5 KM3.out CQ3.out (by decide)) (fun j hj => .inl hj), eR5 KN3.out CQ3.out (by decide), .inr (fun j hj => ⟨ZN.out j hj, Kd.J2 KN3.out j hj.symm⟩)⟩, ?_, ?_⟩
     ·exact Xc (Xc (Xc (Xc (Xc LB3.out Mo.out) Mo.out) Mo.out) Mo.out) Mo.out
     ·exact (((((LK3.out.mono (fun j hj => .inl (ZL.out j hj))).setCell (p := ⟨Zo, 0, none⟩) (.inr U8.out) _).setCell (p := ⟨Zo, 1, none⟩) (.inr U8.out) _).setCell (p := ⟨Zo, 2, none⟩) (.inr U8.out) _).setCell (p := ⟨Zo, 3, none⟩) (.inr U8.out) _).setCell (p := ⟨Zo, 4, none⟩) (.inr U8.out) _
    ·subst c32
     have H2 : Gr ZY Jl YH Yw Z4 ZW Jo Js Y2 Yi Jm Yr Y7 = some (r1, r2, r3, r4, r5, r6) := by rw [if_pos rfl] at H; exact H
     clear H
     unfold Gr at H2
     by_cases c40 : 0 ≤ YH
     rotate_left
     ·rw [if_neg c40] at H2
      exact absurd H2 (by simp)
     rw [if_pos c40] at H2
     by_cases c41 : YH < (Yi.length : Int)
     rotate_left
     ·rw [if_neg c41] at H2
      exact absurd H2 (by simp)
     rw [if_pos c41] at H2; replace H2 := Option.bind_eq_some_iff.mp H2; obtain ⟨⟨d0, d1, d2⟩, A42, H2⟩ := H2; have AD := az A42; clear A42; simp only [Option.some.injEq, Prod.mk.injEq] at H2; obtain ⟨rfl, rfl, rfl, rfl, rfl, rfl⟩ := H2; obtain ⟨gm, cm, em, hgmb, hgml, hgmt⟩ := Kd.Nv KM3.out (by omega)
     (first | cases em | (injection em with ea_ en_ ec_; (first | subst ea_ | (injection ea_ with ea_; subst ea_)); subst ec_; clear en_))
     obtain ⟨ce, hcl, hM, hcc, hfr⟩ := Kd.FO KM3.out z25 YH c40 c41; obtain ⟨v2, rfl, hR⟩ := JP hM; obtain ⟨A2, c2, e2_⟩ := Kd.Xx hR
     change v2 = .slice A2 (Xn Yi YH).f2.length c2 at e2_
     subst e2_; have hg0 : w3.cell? ⟨gm, (YH : Int).toNat * 3, none⟩ = some (.int .i64 (Xn Yi YH).f0) := hcc 0 _ rfl; have hg1 : w3.cell? ⟨gm, (YH : Int).toNat * 3 + 1, none⟩ = some (.int .i64 (Xn Yi YH).f1) := hcc 1 _ rfl; have hg2 : w3.cell? ⟨gm, (YH : Int).toNat * 3 + 2, none⟩ = some (.slice A2 (Xn Yi YH).f2.length c2) := hcc 2 _ rfl; have hfg0 : w3.frozen? ⟨gm, (YH : Int).toNat * 3, none⟩ = false := hfr 0; have hfg1 : w3.frozen? ⟨gm, (YH : Int).toNat * 3 + 1, none⟩ = false := hfr 1; have hfg2 : w3.frozen? ⟨gm, (YH : Int).toNat * 3 + 2, none⟩ = false := hfr 2; have hlE : YX < w3.heap.size := Dq CE3.out; have hlR : XO < w3.heap.size := Dq CR3.out; have R2 := az (show Kd.R (Kd.int .i64) 3 w3 w0.heap.size _ (.slice A2 (Xn Yi YH).f2.length c2) (Xn Yi YH).f2 from hR); have Hcl := az hcl; clear hcl hM hcc hfr hR hgmt; have x1 : w3.cell? ⟨YX, 1, none⟩ = some (.slice (some ⟨gm, 0, none⟩) Yi.length J6) := bt CE3 rfl; have y0 : w3.cell? ⟨XO, 0, none⟩ = some (.int .i64 ZY) := bt CR3 rfl; have y1 : w3.cell? ⟨XO, 1, none⟩ = some (.int .i64 Jl) := bt CR3 rfl; have y2 : w3.cell? ⟨XO, 2, none⟩ = some (.int .i64 YH) := bt CR3 rfl; have y3 : w3.cell? ⟨XO, 3, none⟩ = some (.int .i64 Yw) := bt CR3 rfl; have y4 : w3.cell? ⟨XO, 4, none⟩ = some (.int .i64 Z4) := bt CR3 rfl; have y5 : w3.cell? ⟨XO, 5, none⟩ = some (.int .i64 ZW) := bt CR3 rfl; have y6 : w3.cell? ⟨XO, 6, none⟩ = some (.int .i64 Jo) := bt CR3 rfl; have y7 : w3.cell? ⟨XO, 7, none⟩ = some (.int .i64 Js) := bt CR3 rfl; have P40 := az c40
     have P41 := az c41; have p5 := eq_true c40; have q5 := eq_true c41; clear c40 c41; have ZB := az (show w0.heap.size ≤ w3.heap.size from LB3.out.size); have LK3s := az (show w.heap.size ≤ w3.heap.size from LK3.out.1); have KNl := az (show ∀ j, some j = (Value.slice NS Jm.length NT).ownBlock → j < w3.heap.size from fun j hj => Kd.J2 KN3.out j hj.symm)
     go_wp2_with fail
     have KD4 := az (Kd.XR KD3.out); have KM4 := az (Kd.XR KM3.out); have KN4 := az (Kd.XR KN3.out); have CE4 := az (Yd CE3.out); have CR4 := az (Yd CR3.out); have CQ4 := az (Yd CQ3.out); have LK4 := az (Kept.drew LK3.out); have LB4 := az (wd LB3.out); have R24 := az (Kd.XR R2.out); have ZS := az (show w3.drew.heap.size = w3.heap.size from rfl); have g0 : w3.drew.cell? ⟨gm, (YH : Int).toNat * 3, none⟩ = some (.int .i64 (Xn Yi YH).f0) := hg0; have g1 : w3.drew.cell? ⟨gm, (YH : Int).toNat * 3 + 1, none⟩ = some (.int .i64 (Xn Yi YH).f1) := hg1; have g2 : w3.drew.cell? ⟨gm, (YH : Int).toNat * 3 + 2, none⟩ = some (.slice A2 (Xn Yi YH).f2.length c2) := hg2; clear KD3 KM3 KN3 CE3 CR3 CQ3 LK3 LB3 R2 hg0 hg1 hg2 x1 y0 y1 y2 y3 y4 y5 y6 y7 hfg0 hfg1 hfg2; refine ZR (n := 16) (S := fun w' => w'.cell? ⟨YX, 1, none⟩ = some (.slice (some ⟨gm, 0, none⟩) Yi.length J6) ∧ w'.cell? ⟨XO, 0, none⟩ = some (.int .i64 ZY) ∧ w'.cell? ⟨XO, 1, none⟩ = some (.int .i64 Jl) ∧ w'.cell? ⟨XO, 2, none⟩ = some (.int .i64 YH) ∧ w'.cell? ⟨XO, 3, none⟩ = some (.int .i64 Yw) ∧ w'.cell? ⟨XO, 4, none⟩ = some (.int .i64 Z4) ∧ w'.cell? ⟨XO, 5, none⟩ = some (.int .i64 ZW) ∧ w'.cell? ⟨XO, 6, none⟩ = some (.int .i64 Jo) ∧ w'.cell? ⟨XO, 7, none⟩ = some (.int .i64 Js) ∧ w'.cell? ⟨gm, (YH : Int).toNat * 3, none⟩ = some (.int .i64 (Xn Yi YH).f0) ∧ w'.cell? ⟨gm, (YH : Int).toNat * 3 + 1, none⟩ = some (.int .i64 (Xn Yi YH).f1) ∧ w'.cell? ⟨gm, (YH : Int).toNat * 3 + 2, none⟩ = some (.slice A2 (Xn Yi YH).f2.length c2)) (ds := [15]) #[false, false, false, false, false, false, false, false, false, false, false, false, false, false, false, false] zb13 rfl rfl ⟨bt CE4 rfl, bt CR4 rfl, bt CR4 rfl, bt CR4 rfl, bt CR4 rfl, bt CR4 rfl, bt CR4 rfl, bt CR4 rfl, bt CR4 rfl, g0, g1, g2⟩ (fun hHeld => ?_); refine ZV XM.XgG XM.Xaw (fun HT_ HW_ => ?_)
     generalize w3.drew = w5 at KD4 KM4 KN4 CE4 CR4 CQ4 LK4 LB4 R24 ZS g0 g1 g2 hHeld ⊢; refine Nc (i := 0) (N := some 32) (v := ?_) (a' := ?_) #[true, false, false, false, false, false, false, false, false, false, false, false, false, false, false, false] rfl rfl (U5 HT_.out zb13) (fun _ _ _ h => h) (Or.inl ⟨by rfl, ?_⟩) ?_ ?_; rotate_left
     ·intro w'
      go_simp
      with_reducible rfl
     rotate_left
     ·simp only [Act.put, List.setIfInBounds_toArray, List.set_cons_zero, List.set_cons_succ, XG, XW]
      rfl
     refine Nc (i := 2) (N := some 34) (v := ?_) (a' := ?_) #[true, false, true, false, false, false, false, false, false, false, false, false, false, false, false, false] rfl rfl (U5 HT_.out zb13) (fun _ _ _ h => h) (Or.inl ⟨by rfl, ?_⟩) ?_ ?_; rotate_left
     ·intro w'
      go_simp
      with_reducible rfl
     rotate_left
     ·simp only [Act.put, List.setIfInBounds_toArray, List.set_cons_zero, List.set_cons_succ, XG, XW]
      rfl
     refine Nc (i := 4) (N := some 36) (v := ?_) (a' := ?_) #[true, false, true, false, true, false, false, false, false, false, false, false, false, false, false, false] rfl rfl (U5 HT_.out zb13) (fun _ _ _ h => h) (Or.inl ⟨by rfl, ?_⟩) ?_ ?_; rotate_left
     ·intro w'
      go_simp
      with_reducible rfl
     rotate_left
     ·simp only [Act.put, List.setIfInBounds_toArray, List.set_cons_zero, List.set_cons_succ, XG, XW]
      rfl
     refine Nc (i := 6) (N := some 38) (v := ?_) (a' := ?_) #[true, false, true, false, true, false, true, false, false, false, false, false, false, false, false, false] rfl rfl (U5 HT_.out zb13) (fun _ _ _ h => h) (Or.inl ⟨by rfl, ?_⟩) ?_ ?_; rotate_left
     ·intro w'
      go_simp
      with_reducible rfl
     rotate_left
     ·simp only [Act.put, List.setIfInBounds_toArray, List.set_cons_zero, List.set_cons_succ, XG, XW]
      rfl
     refine Nc (i := 11) (N := some 43) (v := ?_) (a' := ?_) #[true, false, true, false, true, false, true, false, false, false, false, true, false, false, false, false] rfl rfl (U5 HT_.out zb13) (fun _ _ _ h => h) (Or.inl ⟨by rfl, ?_⟩) ?_ ?_; rotate_left
     ·intro w'
      go_simp
      with_reducible rfl
     rotate_left
     ·simp only [Act.put, List.setIfInBounds_toArray, List.set_cons_zero, List.set_cons_succ, XG, XW]
      rfl
     refine Nc (i := 12) (N := some 44) (v := ?_) (a' := ?_) #[true, false, true, false, true, false, true, false, false, false, false, true, true, false, false, false] rfl rfl (U5 HT_.out zb13) (fun _ _ _ h => h) (Or.inl ⟨by rfl, ?_⟩) ?_ ?_; rotate_left
     ·intro w'
      go_simp
      with_reducible rfl
     rotate_left
     ·simp only [Act.put, List.setIfInBounds_toArray, List.set_cons_zero, List.set_cons_succ, XG, XW]
      rfl
     refine NM (i := 1) (N := some 33) (v := ?_) (a' := ?_) #[true, true, true, false, true, false, true, false, false, false, false, true, true, false, false, false] rfl rfl (Gs HT_.out HW_.out zb13) (fun _ _ _ h => h) (Or.inl ⟨by rfl, ?_⟩) hHeld ?_ ?_; rotate_left
     ·rintro w' ⟨s0, s1, s2, s3, s4, s5, s6, s7, s8, s9, s10, s11⟩
      go_simp
      with_reducible rfl
     rotate_left
     ·simp only [Act.put, List.setIfInBounds_toArray, List.set_cons_zero, List.set_cons_succ, XG, XW]
      rfl
     refine NM (i := 3) (N := some 35) (v := ?_) (a' := ?_) #[true, true, true, true, true, false, true, false, false, false, false, true, true, false, false, false] rfl rfl (Gs HT_.out HW_.out zb13) (fun _ _ _ h => h) (Or.inl ⟨by rfl, ?_⟩) hHeld ?_ ?_; rotate_left
     ·rintro w' ⟨s0, s1, s2, s3, s4, s5, s6, s7, s8, s9, s10, s11⟩
      go_simp
      with_reducible rfl
     rotate_left
     ·simp only [Act.put, List.setIfInBounds_toArray, List.set_cons_zero, List.set_cons_succ, XG, XW]
      rfl
     refine NM (i := 5) (N := some 37) (v := ?_) (a' := ?_) #[true, true, true, true, true, true, true, false, false, false, false, true, true, false, false, false] rfl rfl (Gs HT_.out HW_.out zb13) (fun _ _ _ h => h) (Or.inl ⟨by rfl, ?_⟩) hHeld ?_ ?_; rotate_left
     ·rintro w' ⟨s0, s1, s2, s3, s4, s5, s6, s7, s8, s9, s10, s11⟩
      go_simp
      with_reducible rfl
     rotate_left
     ·simp only [Act.put, List.setIfInBounds_toArray, List.set_cons_zero, List.set_cons_succ, XG, XW]
      rfl
     refine NM (i := 7) (N := some 39) (v := ?_) (a' := ?_) #[true, true, true, true, true, true, true, true, false, false, false, true, true, false, false, false] rfl rfl (Gs HT_.out HW_.out zb13) (fun _ _ _ h => h) (Or.inl ⟨by rfl, ?_⟩) hHeld ?_ ?_; rotate_left
     ·rintro w' ⟨s0, s1, s2, s3, s4, s5, s6, s7, s8, s9, s10, s11⟩
      go_simp
      with_reducible rfl
     rotate_left
     ·simp only [Act.put, List.setIfInBounds_toArray, List.set_cons_zero, List.set_cons_succ, XG, XW]
      rfl
     refine Nc (i := 8) (N := some 40) (v := ?_) (a' := ?_) #[true, true, true, true, true, true, true, true, true, false, false, true, true, false, false, false] rfl rfl (U5 HT_.out zb13) (fun _ _ _ h => h) (Or.inl ⟨by rfl, ?_⟩) ?_ ?_; rotate_left
     ·intro w'
      go_simp
      with_reducible rfl
     rotate_left
     ·simp only [Act.put, List.setIfInBounds_toArray, List.set_cons_zero, List.set_cons_succ, XG, XW]
      rfl
     refine NM (i := 9) (N := some 41) (v := ?_) (a' := ?_) #[true, true, true, true, true, true, true, true, true, true, false, true, true, false, false, false] rfl rfl (Gs HT_.out HW_.out zb13) (fun _ _ _ h => h) (Or.inl ⟨by rfl, ?_⟩) hHeld ?_ ?_; rotate_left
     ·rintro w' ⟨s0, s1, s2, s3, s4, s5, s6, s7, s8, s9, s10, s11⟩
      go_simp
      with_reducible rfl
     rotate_left
     ·simp only [Act.put, List.setIfInBounds_toArray, List.set_cons_zero, List.set_cons_succ, XG, XW]
      rfl
     refine NM (i := 10) (N := some 42) (v := ?_) (a' := ?_) #[true, true, true, true, true, true, true, true, true, true, true, true, true, false, false, false] rfl rfl (Gs HT_.out HW_.out zb13) (fun _ _ _ h => h) (Or.inl ⟨by rfl, ?_⟩) hHeld ?_ ?_; rotate_left
     ·rintro w' ⟨s0, s1, s2, s3, s4, s5, s6, s7, s8, s9, s10, s11⟩
      go_simp
      with_reducible rfl
     rotate_left
     ·simp only [Act.put, List.setIfInBounds_toArray, List.set_cons_zero, List.set_cons_succ, XG, XW]
      rfl
     refine Vr (i := 13) (N := some 45) #[true, true, true, true, true, true, true, true, true, true, true, true, true, true, false, false] rfl rfl (Zf HT_.out zb13) (by decide) (fun K hK => ?_); refine Ji Try.func103 zb13 rfl #[.agg #[.int .i64 (Xn Yi YH).f0, .int .i64 (Xn Yi YH).f1, .slice A2 (Xn Yi YH).f2.length c2], .agg #[.int .i64 ZY, .int .i64 Jl, .int .i64 YH, .int .i64 Yw, .int .i64 Z4, .int .i64 ZW, .int .i64 Jo, .int .i64 Js], .int .i64 (Jm.length : Int)] (by rfl) rfl rfl zb0 ?_
     with_reducible refine (Dm.calls (Xn Yi YH).f0 (Xn Yi YH).f1 A2 c2 (Xn Yi YH).f2 ZY Jl YH Yw Z4 ZW Jo Js (Jm.length : Int) d0 d1 d2 _ (Kd.Xi R24.out).2.2 (Kd.Xi R24.out).2.1 AD.out).mono ?_
     rintro e w6 ⟨v6, rfl, ho, hb⟩; have z0 := (hb.cell (p := ⟨gm, (YH : Int).toNat * 3, none⟩) (ZS.out ▸ hgml)).trans g0; have z1 := (hb.cell (p := ⟨gm, (YH : Int).toNat * 3 + 1, none⟩) (ZS.out ▸ hgml)).trans g1; have z2 := (hb.cell (p := ⟨gm, (YH : Int).toNat * 3 + 2, none⟩) (ZS.out ▸ hgml)).trans g2; refine ⟨_, rfl, ?_⟩; have KD6 := az (Kd.Xz KD4.out hb); have KM6 := az (Kd.Xz KM4.out hb); have KN6 := az (Kd.Xz KN4.out hb); have CE6 := az (Z7 CE4.out hb); have CR6 := az (Z7 CR4.out hb); have CQ6 := az (Z7 CQ4.out hb); have LK6 := az (LK4.out.below hb); have LB6 := az (Xe LB4.out hb); have RV := az (Kd.Zv ho); obtain ⟨A6_, c6_, e6_⟩ := Kd.Xx ho; subst e6_; clear ho hb KD4 KM4 KN4 CE4 CR4 CQ4 LK4 LB4 R24 g0 g1 g2; obtain ⟨ce, hcl, hM, hcc, hfr⟩ := Kd.FO KM6.out z25 YH P40.out P41.out; obtain ⟨v7, rfl, hR7⟩ := JP hM; clear hR7; have hf0 : w6.frozen? ⟨gm, (YH : Int).toNat * 3, none⟩ = false := hfr 0; have hf1 : w6.frozen? ⟨gm, (YH : Int).toNat * 3 + 1, none⟩ = false := hfr 1; have hf2 : w6.frozen? ⟨gm, (YH : Int).toNat * 3 + 2, none⟩ = false := hfr 2; have HP := Kd.Xax (Kd.XN KM6.out (ok' := fun j => P0_1_ j ∨ w3.heap.size ≤ j) (fun j hj => .inl hj)) YH P40.out P41.out (seg := [.int .i64 d0, .int .i64 d1, .slice A6_ d2.length c6_]) (j := 0) (okp := fun j => w3.heap.size ≤ j) hcl hcc (show 3 ≤ 3 from by decide) (x' := (⟨d0, d1, d2⟩ : S25)) (WJ _ _ _ (⟨d0, d1, d2⟩ : S25) (Kd.XN (Kd.XT RV.out (by rw [ZS.out]; exact ZB.out)) (fun j hj => by have := hj.2.1; rw [ZS.out] at this; exact this))) (fun j hj => ⟨.inr hj, by have := hgml; omega⟩)
     have HQ := az HP.1; clear hcl hM hcc hfr HP; refine hK.out _ _ ⟨bt CE6 rfl, bt CR6 rfl, bt CR6 rfl, bt CR6 rfl, bt CR6 rfl, bt CR6 rfl, bt CR6 rfl, bt CR6 rfl, bt CR6 rfl, z0, z1, z2⟩ (fun hHeld => ?_); clear hK K; refine YP (a' := ?_) ?_ ?_; rotate_left
     ·show Act.put _ (some 45) _ = _
      simp only [Act.put, List.setIfInBounds_toArray, List.set_cons_zero, List.set_cons_succ, XG, XW]
      rfl
     refine Nc (i := 14) (N := some 46) (v := ?_) (a' := ?_) #[true, true, true, true, true, true, true, true, true, true, true, true, true, true, true, false] rfl rfl (U5 HT_.out zb13) (fun _ _ _ h => h) (Or.inl ⟨by rfl, ?_⟩) ?_ ?_; rotate_left
     ·intro w'
      go_simp
      with_reducible rfl
     rotate_left
     ·simp only [Act.put, List.setIfInBounds_toArray, List.set_cons_zero, List.set_cons_succ, XG, XW]
      rfl
     refine Uz (i := 15) (N := none) #[true, true, true, true, true, true, true, true, true, true, true, true, true, true, true, true] rfl rfl (Zf HT_.out zb13) (by decide) (fun K hK => ?_); refine M9 (w1 := ?_) (by rfl) rfl ?_ ?_; rotate_left
     ·go_simp
      rfl
     refine hK.out _ _ ?_; clear hK K; refine J4 (J9 HT_.out zb13) ?_; have hPg : P0_1_ gm := KM6.out.1 gm rfl; obtain ⟨cellsM, hcM⟩ := Kd.Fp KM6.out gm rfl
     have hneE : YX ≠ gm := fun e_ => Kd.Pf KM6.out CE6.out (by decide) (by rw [e_]; rfl)
     have hneQ : Zo ≠ gm := fun e_ => Kd.Pf KM6.out CQ6.out (by decide) (by rw [e_]; rfl)
     have FD := Kd.ZZ (p := ⟨gm, (YH : Int).toNat * 3 + 2, none⟩) (Kd.ZZ (p := ⟨gm, (YH : Int).toNat * 3 + 1, none⟩) (Kd.ZZ (p := ⟨gm, (YH : Int).toNat * 3, none⟩) KD6.out (fun j hj e_ => ZDM.out j hj (by rw [e_]; exact hPg)) (.int .i64 d0)) (fun j hj e_ => ZDM.out j hj (by rw [e_]; exact hPg)) (.int .i64 d1)) (fun j hj e_ => ZDM.out j hj (by rw [e_]; exact hPg)) (.slice A6_ d2.length c6_); have FN := Kd.XN (Kd.ZZ (p := ⟨gm, (YH : Int).toNat * 3 + 2, none⟩) (Kd.ZZ (p := ⟨gm, (YH : Int).toNat * 3 + 1, none⟩) (Kd.ZZ (p := ⟨gm, (YH : Int).toNat * 3, none⟩) (Kd.F9 KN6.out hcM (by decide)) (fun _ hk => hk.2) (.int .i64 d0)) (fun _ hk => hk.2) (.int .i64 d1)) (fun _ hk => hk.2) (.slice A6_ d2.length c6_)) (ok' := fun j => some j = (Value.slice NS Jm.length NT).ownBlock) (fun _ hk => hk.1); refine Qe (fun w' => Kd.R k25 25 w' w0.heap.size P0_0_ (.slice JJ Y2.length JK) Y2 ∧ Kd.R k25 25 w' w0.heap.size (fun j => P0_1_ j ∨ w3.heap.size ≤ j) (.slice (some ⟨gm, 0, none⟩) Yi.length J6) (Yi.set YH.toNat ⟨d0, d1, d2⟩) ∧ Kd.R k41 41 w' w0.heap.size (fun j => some j = (Value.slice NS Jm.length NT).ownBlock) (.slice NS Jm.length NT) Jm ∧ w'.heap[YX]? = some (.cells #[.slice JJ Y2.length JK, .slice (some ⟨gm, 0, none⟩) Yi.length J6, .slice NS Jm.length NT, .int .i64 Yr, .bool Y7] 52 (0, 0)) ∧ w'.heap[Zo]? = some (.cells #[.slice none 0 0, .slice none 0 0, .slice none 0 0, .int .i64 0, .bool false] 52 (0, 0)) ∧ Kept w w' (fun j => some j = (Value.slice Ao8 XE.length co8).ownBlock ∨ P0_1_ j) ∧ Below w0.heap.size w0 w') ⟨FD, HQ.out, FN, FB (FB (FB CE6.out hneE _) hneE _) hneE _, FB (FB (FB CQ6.out hneQ _) hneQ _) hneQ _, (((LK6.out.mono (fun j hj => .inl (ZL.out j hj))).setCell (p := ⟨gm, (YH : Int).toNat * 3, none⟩) (.inl (.inr hPg)) _).setCell (p := ⟨gm, (YH : Int).toNat * 3 + 1, none⟩) (.inl (.inr hPg)) _).setCell (p := ⟨gm, (YH : Int).toNat * 3 + 2, none⟩) (.inl (.inr hPg)) _, Xc (Xc (Xc LB6.out hgmb) hgmb) hgmb⟩ ?_
     have hw3 := az (Nat.le_trans LK3s.out (Nat.le_refl _)); have hn3 := az (show ∀ j, some j = (Value.slice NS Jm.length NT).ownBlock → j < w3.heap.size from fun j hj => KNl.out j hj); clear FD FN HQ KD6 KM6 KN6 CE6 CR6 CQ6 LK6 LB6 RV hf0 hf1 hf2 z0 z1 z2; rintro w7 ⟨hFD, hFM, hFN, hBE, hBQ, hHK, hHB⟩; have GD := az hFD; have GM := az hFM; have GN := az hFN; have BE := az hBE; have BQ := az hBQ; have LK7 := az hHK; have LB7 := az hHB; clear hFD hFM hFN hBE hBQ hHK hHB; have x0 : w7.cell? ⟨YX, 0, none⟩ = some (.slice JJ Y2.length JK) := bt BE rfl; have x1 : w7.cell? ⟨YX, 1, none⟩ = some (.slice (some ⟨gm, 0, none⟩) Yi.length J6) := bt BE rfl; have x2 : w7.cell? ⟨YX, 2, none⟩ = some (.slice NS Jm.length NT) := bt BE rfl; have x3 : w7.cell? ⟨YX, 3, none⟩ = some (.int .i64 Yr) := bt BE rfl; have x4 : w7.cell? ⟨YX, 4, none⟩ = some (.bool Y7) := bt BE rfl; have q0 : w7.cell? ⟨Zo, 0, none⟩ = some (.slice none 0 0) := bt BQ rfl; have q1 : w7.cell? ⟨Zo, 1, none⟩ = some (.slice none 0 0) := bt BQ rfl; have q2 : w7.cell? ⟨Zo, 2, none⟩ = some (.slice none 0 0) := bt BQ rfl; have q3 : w7.cell? ⟨Zo, 3, none⟩ = some (.int .i64 0) := bt BQ rfl; have q4 : w7.cell? ⟨Zo, 4, none⟩ = some (.bool false) := bt BQ rfl; have qf0 := Xf BQ.out 0; have qf1 := Xf BQ.out 1; have qf2 := Xf BQ.out 2; have qf3 := Xf BQ.out 3; have qf4 := Xf BQ.out 4
     go_wp2
     refine bodyPost_ret (v := .tuple #[.agg #[.slice JJ Y2.length JK, .slice (some ⟨gm, 0, none⟩) Yi.length J6, .slice NS Jm.length NT, .int .i64 Yr, .bool Y7], .bool true]) (by simp [results, Try.results153, go_sem, *]) rfl ⟨_, rfl, eR5 GD.out BQ.out (by decide), ⟨w3.heap.size, hw3.out, eR5 GM.out BQ.out (by decide), eR5 GN.out BQ.out (by decide), .inr (fun j hj => ⟨ZN.out j hj, hn3.out j hj⟩)⟩, ?_, ?_⟩
     ·exact Xc (Xc (Xc (Xc (Xc LB7.out Mo.out) Mo.out) Mo.out) Mo.out) Mo.out
     ·exact ((((LK7.out.setCell (p := ⟨Zo, 0, none⟩) (.inr U8.out) _).setCell (p := ⟨Zo, 1, none⟩) (.inr U8.out) _).setCell (p := ⟨Zo, 2, none⟩) (.inr U8.out) _).setCell (p := ⟨Zo, 3, none⟩) (.inr U8.out) _).setCell (p := ⟨Zo, 4, none⟩) (.inr U8.out) _
  ·rw [if_neg c5] at H
   exact absurd H (by simp)
 ·rw [if_neg c4] at H
  exact absurd H (by simp)
theorem XM.to (k : Nat) (PD PM : Nat → Prop) (v0 v1 v2 : Value) (Y2 Yi : List S25) (XE : List S41) (Yr : Int) (Y7 : Bool) (ZY Jl YH Yw Z4 ZW Pq Js : Int) (r1 r2 : List S25) (r3 : List S41) (r4 : Int) (r5 r6 : Bool) (w0 w : World) (hB : Below w0.heap.size w0 w) (hE : VG w0 w PD PM v0 v1 v2 Y2 Yi XE)
 (h : XM.f k Y2 Yi XE Yr Y7 ZY Jl YH Yw Z4 ZW Pq Js = some (r1, r2, r3, r4, r5, r6)) :
 Calls Try.prog 153 #[.agg #[v0, v1, v2, .int .i64 Yr, .bool Y7], .agg #[.int .i64 ZY, .int .i64 Jl, .int .i64 YH, .int .i64 Yw, .int .i64 Z4, .int .i64 ZW, .int .i64 Pq, .int .i64 Js]] w fun e w' => ∃ A0 c0 A1 c1 A2 c2, e = .returned (.tuple #[.agg #[.slice A0 r1.length c0, .slice A1 r2.length c1, .slice A2 r3.length c2, .int .i64 r4, .bool r5], .bool r6]) ∧ XcZ w0 w (PE PD PM v2) w' (.slice A0 r1.length c0) (.slice A1 r2.length c1) (.slice A2 r3.length c2) r1 r2 r3 := by
 refine (XM.calls k PD PM _ v0 v1 v2 Y2 Yi XE Yr Y7 ZY Jl YH Yw Z4 ZW Pq Js r1 r2 r3 r4 r5 r6 w0 w hB hE.d hE.m hE.l (fun _ hj => hj) hE.pd hE.pm hE.dm h).mono ?_; rintro e w' ⟨v2', rfl, hd, ⟨n, hn, hm, hl, ho⟩, hb, hk⟩; obtain ⟨A0, c0, e0⟩ := Kd.Xx hd; obtain ⟨A1, c1, e1⟩ := Kd.Xx hm; obtain ⟨A2, c2, e2⟩ := Kd.Xx hl
 have ho' : ∀ j, some j = v2'.ownBlock → (some j = v2.ownBlock ∧ j < w.heap.size) ∨ w.heap.size ≤ j ∧ j < n := fun j hj => by
  rcases ho with ho | ho
  ·rw [ho] at hj; exact .inl ⟨hj, Kd.J2 hE.l j hj.symm⟩
  ·exact .inr (ho j hj)
 refine ⟨A0, c0, A1, c1, A2, c2, by rw [e0, e1, e2], PD, fun j => (PM j ∨ n ≤ j) ∧ j < w'.heap.size, ?_, ?_, hb, hk.mono (fun j hj => hj.elim (fun h => .inr (.inr h)) (fun h => .inr (.inl h)))⟩
 ·rw [← e0, ← e1, ← e2]
  refine ⟨hd, Kd.XN (Kd.Zv hm) (fun j hj => ⟨hj.1, hj.2.2.1⟩), hl, fun j hj => ⟨Nat.lt_of_lt_of_le (hE.pd j hj).1 hk.1, fun e => ?_⟩, fun j hj => ⟨hj.2, fun e => ?_⟩, fun j hj hp => ?_⟩
  ·rcases ho' j e with h1 | h1
   ·exact (hE.pd j hj).2 h1.1
   ·have := (hE.pd j hj).1; omega
  ·rcases ho' j e with h1 | h1
   ·rcases hj.1 with h2 | h2
    ·exact (hE.pm j h2).2 h1.1
    ·omega
   ·rcases hj.1 with h2 | h2
    ·have := (hE.pm j h2).1; omega
    ·omega
  ·rcases hp.1 with h2 | h2
   ·exact hE.dm j hj h2
   ·have := (hE.pd j hj).1; omega
 ·intro j hj
  rcases hj with h1 | h1 | h1
  ·exact .inl (.inl h1)
  ·rcases h1.1 with h2 | h2
   ·exact .inl (.inr (.inl h2))
   ·exact .inr (Nat.le_trans hn h2)
  ·rw [← e2] at h1
   rcases ho' j h1 with h2 | h2
   ·exact .inl (.inr (.inr h2.1))
   ·exact .inr h2.1
end Go.Proofs.Ytcefiblpnegepaa.Pr
