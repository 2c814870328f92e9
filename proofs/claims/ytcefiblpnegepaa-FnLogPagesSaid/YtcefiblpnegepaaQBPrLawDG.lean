import Derived.Test.YtcefiblpnegepaaQBByq
import Derived.Test.YtcefiblpnegepaaQBSq
import Derived.Test.YtcefiblpnegepaaQBSx
import Derived.Test.YtcefiblpnegepaaQBPrLC2
import Derived.Test.YtcefiblpnegepaaQBPrWrap
import Derived.Test.YtcefiblpnegepaaQBPgP
namespace Go.Proofs.Ytcefiblpnegepaa.Pr
open Go.RowKit Go.PW Go.PL Go.PM
attribute [local go_sem] Y3 Y4 YV YW Yk Yl Y5 Y6
set_option linter.unusedVariables false
set_option linter.unusedSimpArgs false
mutual
def Xr.j0 : Nat → List (S41) → Int → List Int → Bool → Option (Bool)
 | 0, _, _, _, _ => none
 | k + 1, x3, x4, x5, x32 => if x32 = true then ((XP.f k x3 x4).bind fun Xae => ((Xj.f k x5 Xae).bind fun Xaf => (some Xaf))) else ((XD.f k x3 x4).bind fun UC => (Xr.l0 k x3 x5 UC 0 0))
def Xr.l0 : Nat → List (S41) → List Int → List Int → Int → Int → Option (Bool)
 | 0, _, _, _, _, _ => none
 | k + 1, x3, x5, x6, x7, x8 => if x8 < 5 then (Xr.l1 k x3 x5 x6 x7 x8 false 0) else (some (x7 == (x5.length : Int)))
def Xr.l1 : Nat → List (S41) → List Int → List Int → Int → Int → Bool → Int → Option (Bool)
 | 0, _, _, _, _, _, _, _ => none
 | k + 1, x3, x5, x6, x7, x8, x9, x10 => if x10 < (x6.length : Int) then (if x9 = true then (Xr.l1 k x3 x5 x6 x7 x8 true (wrap64 (x10 + 1))) else (if 0 ≤ x10 then (if 0 ≤ (wrap64 ((rd x6 x10) - 1)) then (if (wrap64 ((rd x6 x10) - 1)) < (x3.length : Int) then (Xr.l1 k x3 x5 x6 x7 x8 (((Xa x3 (wrap64 ((rd x6 x10) - 1))).f2) == x8) (wrap64 (x10 + 1))) else (none)) else (none)) else (none))) else (if x9 = true then (if x7 ≥ (x5.length : Int) then (some false) else (if 0 ≤ x7 then (if x7 < (x5.length : Int) then (if (rd x5 x7) = x8 then (Xr.l0 k x3 x5 x6 (wrap64 (x7 + 1)) (wrap64 (x8 + 1))) else (some false)) else (none)) else (none))) else (Xr.l0 k x3 x5 x6 x7 (wrap64 (x8 + 1))))
end
def Xr.f (k : Nat) (l0 : List Int) : Option (Bool) := if (l0.length : Int) > 1048576 then (some true) else ((JR.f k l0).bind fun Gp => ((Xt.f k Gp.1 Gp.2).bind fun Jp => ((XP.f k Gp.1 Gp.2).bind fun Pt => ((Xj.f k Jp Pt).bind fun Rk => (if Rk = true then ((Xk.f k Gp.1).bind fun SY => (Xr.j0 k Gp.1 Gp.2 Jp (!SY))) else (Xr.j0 k Gp.1 Gp.2 Jp true))))))
set_option maxHeartbeats 8000000 in
set_option maxRecDepth 100000 in
theorem Xr.calls (k : Nat) (A0 : Option Addr) (c0 : Nat) (l0 : List Int) (r : Bool) (w : World) (hr0 : Kd.C (Kd.int .u8) w A0 l0.length l0) (hc0 : l0.length ≤ c0) (h : Xr.f k l0 = some r) :
  Calls Try.prog 21 #[.slice A0 l0.length c0] w fun e w' => e = .returned (.bool r) ∧ Below w.heap.size w w' := by
 have HR0 := az hr0; have HC0 := az hc0; clear hr0 hc0; have HB := az (Below.refl w.heap.size w); have H : (if (l0.length : Int) > 1048576 then (some true) else ((JR.f k l0).bind fun Gp => ((Xt.f k Gp.1 Gp.2).bind fun Jp => ((XP.f k Gp.1 Gp.2).bind fun Pt => ((Xj.f k Jp Pt).bind fun Rk => (if Rk = true then ((Xk.f k Gp.1).bind fun SY => (Xr.j0 k Gp.1 Gp.2 Jp (!SY))) else (Xr.j0 k Gp.1 Gp.2 Jp true))))))) = some r := h; clear h
 by_cases c2 : (l0.length : Int) > 1048576
 ·rw [if_pos c2] at H
  have c2b0 : decide (1048576 < (l0.length : Int)) = true := decide_eq_true c2; have c2b1 : decide (1048576 < l0.length) = true := decide_eq_true (by omega); clear c2; obtain rfl := Option.some.inj H
  go_enter Try.func21, Try.ntmps21
  go_wp2
  go_ret
  exact ⟨zb11, zb1⟩
 ·rw [if_neg c2] at H
  have c2b0 : decide (1048576 < (l0.length : Int)) = false := decide_eq_false c2; have c2b1 : decide (1048576 < l0.length) = false := decide_eq_false (by omega); clear c2; replace H := Option.bind_eq_some_iff.mp H; obtain ⟨⟨Ju, Ff⟩, A30, H⟩ := H; replace H : ((Xt.f k Ju Ff).bind fun Jp => ((XP.f k Ju Ff).bind fun Pt => ((Xj.f k Jp Pt).bind fun Rk => (if Rk = true then ((Xk.f k Ju).bind fun SY => (Xr.j0 k Ju Ff Jp (!SY))) else (Xr.j0 k Ju Ff Jp true))))) = some r := H; have A3 := az A30; clear A30; replace H := Option.bind_eq_some_iff.mp H; obtain ⟨Jp, A40, H⟩ := H; replace H : ((XP.f k Ju Ff).bind fun Pt => ((Xj.f k Jp Pt).bind fun Rk => (if Rk = true then ((Xk.f k Ju).bind fun SY => (Xr.j0 k Ju Ff Jp (!SY))) else (Xr.j0 k Ju Ff Jp true)))) = some r := H; have A4 := az A40; clear A40; have HC5 := az H; clear H
  go_enter Try.func21, Try.ntmps21
  go_upto_region 5 with (first | ((with_reducible refine Xg (f := 74) rfl ?_); refine X6 (some 16) rfl rfl Try.func74 zb13 rfl #[.slice A0 l0.length c0] rfl zb0 ?_; (with_reducible refine (JR.calls k _ _ l0 Ju Ff _ ?side1 ?side2 A3.out).mono ?_); (case side1 => exact zb23); (case side2 => exact HC0.out); rintro e w6 ⟨v388, rfl, ho0, hb⟩; refine ⟨_, rfl, ?_⟩; have SB := az (Kd.KX ho0 (Xq zb1)); replace HB := az (Xe zb1 hb); (try clear hb); (try clear hb2); (try clear hk); (try clear hi); (try clear ho0); obtain ⟨Ao7, co7, eo7, _⟩ := Kd.Qv SB.out; subst eo7) | ((with_reducible refine Xg (f := 73) rfl ?_); refine X6 (some 21) rfl rfl Try.func73 zb13 rfl #[.slice Ao7 Ju.length co7, .int .i64 Ff] rfl zb0 ?_; (with_reducible refine (Xt.calls k _ _ Ju Ff Jp _ ?side1 ?side2 A4.out).mono ?_); (case side1 => exact zb76); (case side2 => exact (Kd.JX SB.out).2.1); rintro e w8 ⟨Xft, rfl, ho0, hb⟩; refine ⟨_, rfl, ?_⟩; replace SB := az (Kd.YC zb68 hb); have Pg := az (KU ho0 (Xq zb1)); replace HB := az (Xe zb1 hb); (try clear hb); (try clear hb2); (try clear hk); (try clear hi); (try clear ho0)))
  (try simp only [Act.put, List.setIfInBounds_toArray, List.set_cons_zero, List.set_cons_succ])
  go_cut [32] (fun v32 wc => ∃ (kq : Nat) (Xc4 : Bool), v32 = .bool Xc4 ∧ Aside0 (Xr.j0 kq Ju Ff Jp Xc4 = some r) ∧ Aside0 (kq ≤ k) ∧ Aside0 (Kd.Q k41 41 wc w.heap.size (fun _ => True) (.slice Ao7 Ju.length co7) Ju) ∧ Aside0 (Z (Kd.int .i64) 3 wc w.heap.size (fun _ => True) Xft Jp) ∧ Aside0 (Below w.heap.size w wc))
  case first =>
   have H := HC5.out; clear HC5; replace H := Option.bind_eq_some_iff.mp H; obtain ⟨Pt, A90, H⟩ := H; replace H : ((Xj.f k Jp Pt).bind fun Rk => (if Rk = true then ((Xk.f k Ju).bind fun SY => (Xr.j0 k Ju Ff Jp (!SY))) else (Xr.j0 k Ju Ff Jp true))) = some r := H; have A9 := az A90; clear A90; replace H := Option.bind_eq_some_iff.mp H; obtain ⟨Rk, A100, H⟩ := H; replace H : (if Rk = true then ((Xk.f k Ju).bind fun SY => (Xr.j0 k Ju Ff Jp (!SY))) else (Xr.j0 k Ju Ff Jp true)) = some r := H; have A10 := az A100; clear A100
   by_cases c11 : Rk = true
   ·subst c11
    have H1 : ((Xk.f k Ju).bind fun SY => (Xr.j0 k Ju Ff Jp (!SY))) = some r := by rw [if_pos rfl] at H; exact H
    clear H; have H := H1; clear H1; replace H := Option.bind_eq_some_iff.mp H; obtain ⟨SY, CY, H⟩ := H; replace H : (Xr.j0 k Ju Ff Jp (!SY)) = some r := H; have A12 := az CY; clear CY; have H' := az H; clear H
    go_wp2_with (first | ((with_reducible refine Xg (f := 72) rfl ?_); refine X6 (some 25) rfl rfl Try.func72 zb13 rfl #[.slice Ao7 Ju.length co7, .int .i64 Ff] rfl zb0 ?_; (with_reducible refine (XP.calls k _ _ Ju Ff Pt _ ?side1 ?side2 A9.out).mono ?_); (case side1 => exact zb76); (case side2 => exact (Kd.JX SB.out).2.1); rintro e w13 ⟨v394, rfl, ho0, hb⟩; refine ⟨_, rfl, ?_⟩; replace SB := az (Kd.YC zb68 hb); have TC := az (Kd.XT (Kd.Jc ho0 (XdY zb87)) (Xq zb1)); replace Pg := az (Wu zb87 (Kd.YR ho0) hb); replace HB := az (Xe zb1 hb); (try clear hb); (try clear hb2); (try clear hk); (try clear hi); (try clear ho0); obtain ⟨Xd5, Xd6, eo14⟩ := Um Pg.out; subst eo14; obtain ⟨Xd7, Xd8, eo15⟩ := Kd.Xx TC.out; subst eo15) | ((with_reducible refine Xg (f := 64) rfl ?_); refine X6 (some 26) rfl rfl Try.func64 zb13 rfl #[.slice Xd5 Jp.length Xd6, .slice Xd7 Pt.length Xd8] rfl zb0 ?_; (with_reducible refine (Xj.calls k _ _ Jp _ _ Pt true _ ?side1 ?side2 ?side3 ?side4 A10.out).mono ?_); (case side1 => exact zb137); (case side2 => exact (VK Pg.out).2.1); (case side3 => exact zb133); (case side4 => exact (Kd.Xi TC.out).2.1); rintro e w' ⟨rfl, ⟨nd, rfl⟩⟩; refine ⟨_, rfl, ?_⟩) | (go_at_call 32; (with_reducible refine (Xk.calls k _ _ Ju SY _ ?side1 ?side2 A12.out).mono ?_); (case side1 => exact zb76); (case side2 => exact (Kd.JX SB.out).2.1); rintro e w16 ⟨rfl, hb⟩; replace SB := az (Kd.YC zb68 hb); replace Pg := az (Ca zb87 hb); replace TC := az (Kd.Xz (by (with_reducible repeat (first | apply Kd.XI | apply Kd.XJ | apply Kd.XR)); exact TC.out) hb); replace HB := az (Xe zb1 hb); (try clear hb); (try clear hb2); (try clear hk); (try clear hi)))
    go_meet
    case rel => exact ⟨_, (!SY), zb12, H', ⟨zb70⟩, ⟨zb68⟩, ⟨zb141⟩, ⟨zb1⟩⟩
   ·replace c11 := Bool.eq_false_iff.mpr c11
    subst c11
    have H1 : (Xr.j0 k Ju Ff Jp true) = some r := by rw [if_neg (show ¬ (false = true) by decide)] at H; exact H
    clear H; have H := H1; clear H1; have H' := az H; clear H
    go_wp2_with (first | ((with_reducible refine Xg (f := 72) rfl ?_); refine X6 (some 25) rfl rfl Try.func72 zb13 rfl #[.slice Ao7 Ju.length co7, .int .i64 Ff] rfl zb0 ?_; (with_reducible refine (XP.calls k _ _ Ju Ff Pt _ ?side1 ?side2 A9.out).mono ?_); (case side1 => exact zb76); (case side2 => exact (Kd.JX SB.out).2.1); rintro e w17 ⟨v394, rfl, ho0, hb⟩; refine ⟨_, rfl, ?_⟩; replace SB := az (Kd.YC zb68 hb); have TC := az (Kd.XT (Kd.Jc ho0 (XdY zb87)) (Xq zb1)); replace Pg := az (Wu zb87 (Kd.YR ho0) hb); replace HB := az (Xe zb1 hb); (try clear hb); (try clear hb2); (try clear hk); (try clear hi); (try clear ho0); obtain ⟨Ao18, co18, eo18⟩ := Um Pg.out; subst eo18; obtain ⟨Xfu, Xfv, eo19⟩ := Kd.Xx TC.out; subst eo19) | ((with_reducible refine Xg (f := 64) rfl ?_); refine X6 (some 26) rfl rfl Try.func64 zb13 rfl #[.slice Ao18 Jp.length co18, .slice Xfu Pt.length Xfv] rfl zb0 ?_; (with_reducible refine (Xj.calls k _ _ Jp _ _ Pt false _ ?side1 ?side2 ?side3 ?side4 A10.out).mono ?_); (case side1 => exact zb137); (case side2 => exact (VK Pg.out).2.1); (case side3 => exact zb133); (case side4 => exact (Kd.Xi TC.out).2.1); rintro e w' ⟨rfl, ⟨nd, rfl⟩⟩; refine ⟨_, rfl, ?_⟩))
    go_meet
    case rel => exact ⟨_, (true), zb12, H', ⟨zb70⟩, ⟨zb68⟩, ⟨zb141⟩, ⟨zb1⟩⟩
  case rest =>
   clear HC5;(try clear c1);(try clear c2);(try clear c2b0);(try clear c2b1);(try clear p2);(try clear c6);(try clear c7);(try clear c11)
   obtain ⟨kq, Xc4, rfl, HA, HJ4, HO_3, HO_5, HB⟩ := hcut
   cases kq with
   | zero => exact absurd HA.out (by simp [Xr.j0])
   | succ kj4 =>
    have H := HA.out; clear HA; simp only [Xr.j0] at H
    by_cases c20 : Xc4 = true
    ·subst c20
     have H1 : ((XP.f kj4 Ju Ff).bind fun Xae => ((Xj.f kj4 Jp Xae).bind fun Xaf => (some Xaf))) = some r := by rw [if_pos rfl] at H; exact H
     clear H; have H := H1; clear H1; replace H := Option.bind_eq_some_iff.mp H; obtain ⟨Xae, A210, H⟩ := H; replace H : ((Xj.f kj4 Jp Xae).bind fun Xaf => (some Xaf)) = some r := H; have A21 := az A210; clear A210; replace H := Option.bind_eq_some_iff.mp H; obtain ⟨Xaf, A220, H⟩ := H; replace H : (some Xaf) = some r := H; have A22 := az A220; clear A220; obtain rfl := Option.some.inj H
     go_wp2_with (first | ((with_reducible refine Xg (f := 72) rfl ?_); refine X6 (some 36) rfl rfl Try.func72 zb13 rfl #[.slice Ao7 Ju.length co7, .int .i64 Ff] rfl zb0 ?_; (with_reducible refine (XP.calls kj4 _ _ Ju Ff Xae _ ?side1 ?side2 A21.out).mono ?_); (case side1 => exact zb136); (case side2 => exact (Kd.JX HO_3.out).2.1); rintro e w23 ⟨v399, rfl, ho0, hb⟩; refine ⟨_, rfl, ?_⟩; replace HO_3 := az (Kd.YC zb49 hb); have Xfw := az (Kd.XT (Kd.Jc ho0 (XdY zb48)) (Xq zb1)); replace HO_5 := az (Wu zb48 (Kd.YR ho0) hb); replace HB := az (Xe zb1 hb); (try clear hb); (try clear hb2); (try clear hk); (try clear hi); (try clear ho0); obtain ⟨Xfx, Xfy, eo24⟩ := Um HO_5.out; subst eo24; obtain ⟨Xfz, Xf0, eo25⟩ := Kd.Xx Xfw.out; subst eo25) | ((with_reducible refine Xg (f := 64) rfl ?_); refine X6 (some 37) rfl rfl Try.func64 zb13 rfl #[.slice Xfx Jp.length Xfy, .slice Xfz Xae.length Xf0] rfl zb0 ?_; (with_reducible refine (Xj.calls kj4 _ _ Jp _ _ Xae Xaf _ ?side1 ?side2 ?side3 ?side4 A22.out).mono ?_); (case side1 => repeat (first | exact (VK HO_5.out).2.2 | (with_reducible refine Kd.Zh ?_ _) | (with_reducible refine Kd.Zi ?_ _) | (with_reducible refine Kd.ZJ ?_))); (case side2 => exact (VK HO_5.out).2.1); (case side3 => repeat (first | exact (Kd.Xi Xfw.out).2.2 | (with_reducible refine Kd.Zh ?_ _) | (with_reducible refine Kd.Zi ?_ _) | (with_reducible refine Kd.ZJ ?_))); (case side4 => exact (Kd.Xi Xfw.out).2.1); rintro e w' ⟨rfl, ⟨nd, rfl⟩⟩; refine ⟨_, rfl, ?_⟩))
     go_ret
     exact ⟨zb11, zb1⟩
    ·replace c20 := Bool.eq_false_iff.mpr c20
     subst c20
     have H1 : ((XD.f kj4 Ju Ff).bind fun UC => (Xr.l0 kj4 Ju Jp UC 0 0)) = some r := by rw [if_neg (show ¬ (false = true) by decide)] at H; exact H
     clear H; have H := H1; clear H1; replace H := Option.bind_eq_some_iff.mp H; obtain ⟨UC, A260, H⟩ := H; replace H : (Xr.l0 kj4 Ju Jp UC 0 0) = some r := H; have A26 := az A260; clear A260; have H' := az H; clear H
     go_wp2_with (first | ((with_reducible refine Xg (f := 59) rfl ?_); refine X6 (some 40) rfl rfl Try.func59 zb13 rfl #[.slice Ao7 Ju.length co7, .int .i64 Ff] rfl zb0 ?_; (with_reducible refine (XD.calls kj4 _ _ Ju Ff UC _ ?side1 ?side2 A26.out).mono ?_); (case side1 => exact zb136); (case side2 => exact (Kd.JX HO_3.out).2.1); rintro e w27 ⟨Xjg, rfl, ho0, hb⟩; refine ⟨_, rfl, ?_⟩; replace HO_3 := az (Kd.YC zb49 hb); have Xs0 := az (Kd.XT (Kd.Jc ho0 (XdY zb48)) (Xq zb1)); replace HO_5 := az (Wu zb48 (Kd.YR ho0) hb); replace HB := az (Xe zb1 hb); (try clear hb); (try clear hb2); (try clear hk); (try clear hi); (try clear ho0)))
     go_loopg [7, 8] kj4 (fun kq v7 v8 w' => ∃ (Fy : Int) (Mx : Int), v7 = .int .i64 Fy ∧ v8 = .int .i64 Mx ∧ Aside0 (Xr.l0 kq Ju Jp UC Fy Mx = some r) ∧ Aside0 (kq ≤ kj4) ∧ Aside0 (Kd.Q k41 41 w' w.heap.size (fun _ => True) (.slice Ao7 Ju.length co7) Ju) ∧ Aside0 (Z (Kd.int .i64) 3 w' w.heap.size (fun k_ => some k_ ≠ (Xjg : Value).ownBlock) Xft Jp) ∧ Aside0 (Kd.R (Kd.int .i64) 3 w' w.heap.size (fun k_ => some k_ ≠ (Xft : Value).ownBlock) Xjg UC) ∧ Aside0 (Below w.heap.size w w'))
     case atStart => exact ⟨(0), (0), zb12, zb12, H', ⟨Nat.le_refl _⟩, ⟨zb49⟩, ⟨by (with_reducible repeat (first | apply WB | apply WC | apply Lt)); exact Xg4 HO_5.out (fun _ hk => hk.2)⟩, ⟨by (with_reducible repeat (first | apply Kd.XI | apply Kd.XJ | apply Kd.XR)); exact Kd.XN Xs0.out (fun _ hk => hk.2)⟩, ⟨zb1⟩⟩
     case round =>
      clear H';(try clear c1);(try clear c2);(try clear c2b0);(try clear c2b1);(try clear p2);(try clear c5);(try clear c6);(try clear c7);(try clear c11);(try clear c20);(try clear c21);(try clear p2)
      obtain ⟨Fy, Mx, rfl, rfl, HA, HK2, HO_3, HO_5, HO_6, HB⟩ := hrel
      cases gk with
      | zero => exact absurd HA.out (by simp [Xr.l0])
      | succ k2 =>
       have H := HA.out; clear HA; simp only [Xr.l0] at H
       by_cases c28 : Mx < 5
       ·rw [if_pos c28] at H
        have Xl6 : decide (Mx < 5) = true := decide_eq_true c28; clear c28; have H' := az H; clear H
        go_wp2
        go_loopg [9, 10] k2 (fun kq v9 v10 w' => ∃ (Xf1 : Bool) (Fx : Int), v9 = .bool Xf1 ∧ v10 = .int .i64 Fx ∧ Aside0 (Xr.l1 kq Ju Jp UC Fy Mx Xf1 Fx = some r) ∧ Aside0 (kq ≤ k2) ∧ Aside0 (Kd.Q k41 41 w' w.heap.size (fun _ => True) (.slice Ao7 Ju.length co7) Ju) ∧ Aside0 (Z (Kd.int .i64) 3 w' w.heap.size (fun k_ => some k_ ≠ (Xjg : Value).ownBlock) Xft Jp) ∧ Aside0 (Kd.R (Kd.int .i64) 3 w' w.heap.size (fun k_ => some k_ ≠ (Xft : Value).ownBlock) Xjg UC) ∧ Aside0 (Below w.heap.size w w'))
        case atStart => exact ⟨(false), (0), zb12, zb12, H', ⟨Nat.le_refl _⟩, ⟨zb49⟩, ⟨zb48⟩, ⟨zb84⟩, ⟨zb1⟩⟩
        case round =>
         clear H';(try clear c1);(try clear c2);(try clear c2b0);(try clear c2b1);(try clear p2);(try clear c5);(try clear c6);(try clear c7);(try clear c11);(try clear c20);(try clear c21);(try clear c28);(try clear Xl6);(try clear p2)
         obtain ⟨Xf1, Fx, rfl, rfl, HA, HK3, HO_3, HO_5, HO_6, HB⟩ := hrel
         cases gk with
         | zero => exact absurd HA.out (by simp [Xr.l1])
         | succ k3 =>
          have H := HA.out; clear HA; simp only [Xr.l1] at H
          by_cases c29 : Fx < (UC.length : Int)
          ·rw [if_pos c29] at H
           have Xfl : decide (Fx < (UC.length : Int)) = true := decide_eq_true c29; clear c29
           by_cases c30 : Xf1 = true
           ·subst c30
            have H1 : (Xr.l1 k3 Ju Jp UC Fy Mx true (wrap64 (Fx + 1))) = some r := by rw [if_pos rfl] at H; exact H
            clear H; have H := H1; clear H1; have H' := az H; clear H; obtain ⟨Ao31, co31, eo31⟩ := Kd.Xx HO_6.out; subst eo31
            go_wp2
            go_roundg k3
            case measure => have := HJ4.out; have := HK2.out; have := HK3.out; omega
            case rel => exact ⟨(true), (wrap64 (Fx + 1)), zb12, zb12, H', ⟨zb127⟩, ⟨zb49⟩, ⟨zb48⟩, ⟨zb84⟩, ⟨zb1⟩⟩
           ·replace c30 := Bool.eq_false_iff.mpr c30
            subst c30
            have H1 : (if 0 ≤ Fx then (if 0 ≤ (wrap64 ((rd UC Fx) - 1)) then (if (wrap64 ((rd UC Fx) - 1)) < (Ju.length : Int) then (Xr.l1 k3 Ju Jp UC Fy Mx (((Xa Ju (wrap64 ((rd UC Fx) - 1))).f2) == Mx) (wrap64 (Fx + 1))) else (none)) else (none)) else (none)) = some r := by rw [if_neg (show ¬ (false = true) by decide)] at H; exact H
            clear H; have H := H1; clear H1
            by_cases c32 : 0 ≤ Fx
            ·rw [if_pos c32] at H
             have c32b0 : decide (0 ≤ Fx) = true := decide_eq_true c32; clear c32
             obtain ⟨Rl, Xc5⟩ : ∃ j_ : Int, (wrap64 ((rd UC Fx) - 1)) = j_ := ⟨_, rfl⟩
             replace H : (if 0 ≤ (Rl) then (if (Rl) < (Ju.length : Int) then (Xr.l1 k3 Ju Jp UC Fy Mx (((Xa Ju (Rl)).f2) == Mx) (wrap64 (Fx + 1))) else (none)) else (none)) = some r := by first | (rw [Xc5] at H; exact H) | (simp only [Xc5] at H ⊢; exact H)
             have hji33w : (IntKind.i64.wrap ((rd UC Fx) - 1)) = Rl := (XG _).trans Xc5
             by_cases c34 : 0 ≤ (Rl)
             ·rw [if_pos c34] at H
              have Om : decide (0 ≤ (Rl)) = true := decide_eq_true c34; clear c34
              by_cases c35 : (Rl) < (Ju.length : Int)
              ·rw [if_pos c35] at H
               have Xll : decide ((Rl) < (Ju.length : Int)) = true := decide_eq_true c35; clear c35; have H' := az H; clear H; obtain ⟨Xjh, Xji, eo36⟩ := Kd.Xx HO_6.out; subst eo36; have XmA : 0 ≤ (Fx : Int) := of_decide_eq_true zb9; have XmB : Fx < (UC.length : Int) := of_decide_eq_true zb9; obtain ⟨ad405, e405, Xzg⟩ := Kd.Vv (Kd.Xi HO_6.out).2.2 Fx XmA XmB
               cases e405
               replace XmA := eq_true XmA; replace XmB := eq_true XmB; have XmC : 0 ≤ ((Rl) : Int) := of_decide_eq_true zb9; have XmD : (Rl) < (Ju.length : Int) := of_decide_eq_true zb9; obtain ⟨ad406, e406, Xzh, Xzi, Xzj, Xzk, Xzl, Xzm, Xzn, Xzo⟩ := YN (Kd.JX HO_3.out).2.2 (Rl) XmC XmD
               cases e406
               replace XmC := eq_true XmC; replace XmD := eq_true XmD
               go_wp2
               go_roundg k3
               case measure => have := HJ4.out; have := HK2.out; have := HK3.out; omega
               case rel => exact ⟨((((Xa Ju (Rl)).f2) == Mx)), (wrap64 (Fx + 1)), (by first | rfl | (simp; done) | (simp only [← Xc5] <;> (first | rfl | simp)) | (simp [*]; done)), zb12, H', ⟨zb127⟩, ⟨zb49⟩, ⟨zb48⟩, ⟨zb84⟩, ⟨zb1⟩⟩
              ·rw [if_neg c35] at H
               exact absurd H (by simp)
             ·rw [if_neg c34] at H
              exact absurd H (by simp)
            ·rw [if_neg c32] at H
             exact absurd H (by simp)
          ·rw [if_neg c29] at H
           have Xfl : decide (Fx < (UC.length : Int)) = false := decide_eq_false c29; clear c29
           by_cases c37 : Xf1 = true
           ·subst c37
            have H1 : (if Fy ≥ (Jp.length : Int) then (some false) else (if 0 ≤ Fy then (if Fy < (Jp.length : Int) then (if (rd Jp Fy) = Mx then (Xr.l0 k3 Ju Jp UC (wrap64 (Fy + 1)) (wrap64 (Mx + 1))) else (some false)) else (none)) else (none))) = some r := by rw [if_pos rfl] at H; exact H
            clear H; have H := H1; clear H1
            by_cases c38 : Fy ≥ (Jp.length : Int)
            ·rw [if_pos c38] at H
             have Xlm : decide ((Jp.length : Int) ≤ Fy) = true := decide_eq_true c38; clear c38; obtain rfl := Option.some.inj H; obtain ⟨Ao39, co39, eo39⟩ := Kd.Xx HO_6.out; subst eo39; obtain ⟨Ao40, co40, eo40⟩ := Um HO_5.out; subst eo40
             go_wp2
             go_ret
             exact ⟨zb11, zb1⟩
            ·rw [if_neg c38] at H
             have Xlm : decide ((Jp.length : Int) ≤ Fy) = false := decide_eq_false c38; clear c38
             by_cases c41 : 0 ≤ Fy
             ·rw [if_pos c41] at H
              have Xl4 : decide (0 ≤ Fy) = true := decide_eq_true c41; clear c41
              by_cases c42 : Fy < (Jp.length : Int)
              ·rw [if_pos c42] at H
               have Xln : decide (Fy < (Jp.length : Int)) = true := decide_eq_true c42; clear c42
               by_cases c43 : (rd Jp Fy) = Mx
               ·rw [if_pos c43] at H
                have Xs1 : ((rd Jp Fy) == Mx) = true := beq_iff_eq.mpr c43; have Xs2 : ((rd Jp Fy) != Mx) = false := bne_eq_false_iff_eq.mpr c43; clear c43; have H' := az H; clear H; obtain ⟨Ao44, co44, eo44⟩ := Kd.Xx HO_6.out; subst eo44; obtain ⟨Ao45, co45, eo45⟩ := Um HO_5.out; subst eo45; have XaS : 0 ≤ (Fy : Int) := of_decide_eq_true zb9; have XaT : Fy < (Jp.length : Int) := of_decide_eq_true zb9; obtain ⟨Xs3, XmE, Xjj⟩ := Kd.Vv (VK HO_5.out).2.2 Fy XaS XaT
                cases XmE
                replace XaS := eq_true XaS; replace XaT := eq_true XaT
                go_wp2
                go_roundg k3
                case measure => have := HJ4.out; have := HK2.out; have := HK3.out; omega
                case rel => exact ⟨(wrap64 (Fy + 1)), (wrap64 (Mx + 1)), zb12, zb12, H', ⟨zb127⟩, ⟨zb49⟩, ⟨zb48⟩, ⟨zb84⟩, ⟨zb1⟩⟩
               ·rw [if_neg c43] at H
                have Xs1 : ((rd Jp Fy) == Mx) = false := beq_eq_false_iff_ne.mpr c43; have Xs2 : ((rd Jp Fy) != Mx) = true := bne_iff_ne.mpr c43; obtain rfl := Option.some.inj H; obtain ⟨Ao46, co46, eo46⟩ := Kd.Xx HO_6.out; subst eo46; obtain ⟨Ao47, co47, eo47⟩ := Um HO_5.out; subst eo47; have XaS : 0 ≤ (Fy : Int) := of_decide_eq_true zb9; have XaT : Fy < (Jp.length : Int) := of_decide_eq_true zb9; obtain ⟨Xs3, XmE, Xjj⟩ := Kd.Vv (VK HO_5.out).2.2 Fy XaS XaT
                cases XmE
                replace XaS := eq_true XaS; replace XaT := eq_true XaT
                go_wp2
                go_ret
                exact ⟨zb11, zb1⟩
              ·rw [if_neg c42] at H
               exact absurd H (by simp)
             ·rw [if_neg c41] at H
              exact absurd H (by simp)
           ·replace c37 := Bool.eq_false_iff.mpr c37
            subst c37
            have H1 : (Xr.l0 k3 Ju Jp UC Fy (wrap64 (Mx + 1))) = some r := by rw [if_neg (show ¬ (false = true) by decide)] at H; exact H
            clear H; have H := H1; clear H1; have H' := az H; clear H; obtain ⟨Ao48, co48, eo48⟩ := Kd.Xx HO_6.out; subst eo48
            go_wp2
            go_roundg k3
            case measure => have := HJ4.out; have := HK2.out; have := HK3.out; omega
            case rel => exact ⟨(Fy), (wrap64 (Mx + 1)), zb12, zb12, H', ⟨zb127⟩, ⟨zb49⟩, ⟨zb48⟩, ⟨zb84⟩, ⟨zb1⟩⟩
       ·rw [if_neg c28] at H
        have Xl6 : decide (Mx < 5) = false := decide_eq_false c28; clear c28; obtain rfl := Option.some.inj H; obtain ⟨Ao49, co49, eo49⟩ := Um HO_5.out; subst eo49
        go_wp2
        go_ret
        exact ⟨zb11, zb1⟩
end Go.Proofs.Ytcefiblpnegepaa.Pr
