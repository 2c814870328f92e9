import Derived.Test.YtcefiblpnegepaaQAByq
import Derived.Test.YtcefiblpnegepaaQASq
import Derived.Test.YtcefiblpnegepaaQASx
import Derived.Test.YtcefiblpnegepaaQAPrLO2
import Derived.Test.YtcefiblpnegepaaQALLastP
import Derived.Test.YtcefiblpnegepaaQAPrWrap
import Derived.Test.YtcefiblpnegepaaQAPuLog
namespace Go.Proofs.Ytcefiblpnegepaa.Pr
open Go.RowKit Go.PW Go.PL Go.PM
attribute [local go_sem] YB YC Zc Zd Yn Yo YD YE
set_option linter.unusedVariables false
set_option linter.unusedSimpArgs false
mutual
def Xo.j0 : Nat → List Int → List Int → Bool → Option (Bool)
 | 0, _, _, _ => none
 | k + 1, x0, x1, x18 => if x18 = true then (some true) else ((Vm.f k x0).bind fun YV => ((Zj.f k YV).bind fun Yv => ((XT.f k YV).bind fun Kb => ((XP.f k Yv Kb).bind fun RN => (if RN = true then ((Xi.f k YV).bind fun W9 => (Xo.j1 k x1 YV Yv (!W9))) else (Xo.j1 k x1 YV Yv true))))))
def Xo.j1 : Nat → List Int → List (S41) → List Int → Bool → Option (Bool)
 | 0, _, _, _, _ => none
 | k + 1, x1, x5, x6, x32 => if x32 = true then ((XT.f k x5).bind fun XaD => ((XP.f k x6 XaD).bind fun XaE => (some XaE))) else (Xo.l0 k x1 x5 x6 0 1)
def Xo.l0 : Nat → List Int → List (S41) → List Int → Int → Int → Option (Bool)
 | 0, _, _, _, _, _ => none
 | k + 1, x1, x5, x6, x7, x8 => if x8 ≤ 3 then ((Y5.f k x5 x8).bind fun O7 => (if O7 > 0 then (if x7 ≥ (x6.length : Int) then (some false) else (if 0 ≤ x7 then (if x7 < (x6.length : Int) then (if (rd x6 x7) = x8 then (Xo.l0 k x1 x5 x6 (wrap64 (x7 + 1)) (wrap64 (x8 + 1))) else (some false)) else (none)) else (none))) else (Xo.l0 k x1 x5 x6 x7 (wrap64 (x8 + 1))))) else (if (x6.length : Int) = 0 then (Xo.j3 k x1 x5 x6 x7 true) else (Xo.j3 k x1 x5 x6 x7 ((x5.length : Int) == 150)))
def Xo.j3 : Nat → List Int → List (S41) → List Int → Int → Bool → Option (Bool)
 | 0, _, _, _, _, _ => none
 | k + 1, x1, x5, x6, x7, x66 => if x66 = true then (some (x7 == (x6.length : Int))) else (if (x6.length : Int) = 0 then (none) else (if 0 ≤ ((x1.length : Int) % (x6.length : Int)) then (if ((x1.length : Int) % (x6.length : Int)) < (x6.length : Int) then ((some (([] : List (S41)) : List (S41))).bind fun Px => (if Px.length + x5.length < 2199023255552 then ((some (Px ++ x5 : List (S41))).bind fun Np => ((Y5.f k x5 (rd x6 ((x1.length : Int) % (x6.length : Int)))).bind fun Zv => (if Np.length < 2199023255552 then ((some (Np ++ [(⟨4, rd x6 ((x1.length : Int) % (x6.length : Int)), 0, 0, 0, 0, Zv, 0⟩ : S41)] : List (S41))).bind fun U1 => (if x7 = (x6.length : Int) then ((Xq.f k U1).bind fun N9 => (if N9 = true then ((Zj.f k U1).bind fun FJ => ((Yz.f k FJ (rd x6 ((x1.length : Int) % (x6.length : Int)))).bind fun Ur => (some (!Ur)))) else (some false))) else (some false))) else (none)))) else (none))) else (none)) else (none)))
end
def Xo.f (k : Nat) (l0 : List Int) (l1 : List Int) : Option (Bool) := if (l0.length : Int) > 1048576 then (Xo.j0 k l0 l1 true) else (Xo.j0 k l0 l1 (decide ((l1.length : Int) > 1048576)))
set_option maxHeartbeats 8000000 in
set_option maxRecDepth 100000 in
theorem Xo.calls (k : Nat) (A0 : Option Addr) (c0 : Nat) (l0 : List Int) (A1 : Option Addr) (c1 : Nat) (l1 : List Int) (r : Bool) (w : World) (hr0 : Kd.C (Kd.int .u8) w A0 l0.length l0) (hc0 : l0.length ≤ c0) (hr1 : Kd.C (Kd.int .u8) w A1 l1.length l1) (hc1 : l1.length ≤ c1) (h : Xo.f k l0 l1 = some r) :
 Calls Try.prog 19 #[.slice A0 l0.length c0, .slice A1 l1.length c1] w fun e w' => e = .returned (.bool r) ∧ Below w.heap.size w w' := by
 have hu41 := Try.underlying41; have HR0 := az hr0; have HC0 := az hc0; clear hr0 hc0; have HR1 := az hr1; have HC1 := az hc1; clear hr1 hc1; have HB := az (Below.refl w.heap.size w); have H : (if (l0.length : Int) > 1048576 then (Xo.j0 k l0 l1 true) else (Xo.j0 k l0 l1 (decide ((l1.length : Int) > 1048576)))) = some r := h; clear h; have HC3 := az H; clear H
 go_enter Try.func19, Try.ntmps19
 go_upto_region 1 with (fail)
 go_cut [18] (fun v18 wc => ∃ (kq : Nat) (Xdf : Bool), v18 = .bool Xdf ∧ Aside0 (Xo.j0 kq l0 l1 Xdf = some r) ∧ Aside0 (kq ≤ k) ∧ Aside0 (Below w.heap.size w wc))
 case first =>
  have H := HC3.out; clear HC3
  by_cases c4 : (l0.length : Int) > 1048576
  ·rw [if_pos c4] at H
   have c4b0 : decide (1048576 < (l0.length : Int)) = true := decide_eq_true c4; have c4b1 : decide (1048576 < l0.length) = true := decide_eq_true (by omega); clear c4
   (first | rw [c4b0] | (simp only [XB, XK]; rw [c4b0]) | skip)
   have H' := az H; clear H
   go_wp2
   go_meet
   case rel => exact ⟨_, (true), zb12, H', ⟨zb51⟩, ⟨zb1⟩⟩
  ·rw [if_neg c4] at H
   have c4b0 : decide (1048576 < (l0.length : Int)) = false := decide_eq_false c4; have c4b1 : decide (1048576 < l0.length) = false := decide_eq_false (by omega); clear c4
   (first | rw [c4b0] | (simp only [XB, XK]; rw [c4b0]) | skip)
   have H' := az H; clear H
   go_wp2
   go_meet
   case rel => exact ⟨_, (decide ((l1.length : Int) > 1048576)), zb12, H', ⟨zb51⟩, ⟨zb1⟩⟩
 case rest =>
  clear HC3;(try clear c1);(try clear p2);(try clear c4);(try clear c4b0);(try clear c4b1)
  obtain ⟨kq, Xdf, rfl, HA, HJ2, HB⟩ := hcut
  cases kq with
  | zero => exact absurd HA.out (by simp [Xo.j0])
  | succ kj2 =>
   have H := HA.out; clear HA; simp only [Xo.j0] at H
   by_cases c5 : Xdf = true
   ·subst c5
    have H1 : (some true) = some r := by rw [if_pos rfl] at H; exact H
    clear H; have H := H1; clear H1; obtain rfl := Option.some.inj H
    go_wp2
    go_ret
    exact ⟨zb8, zb1⟩
   ·replace c5 := Bool.eq_false_iff.mpr c5
    subst c5
    have H1 : ((Vm.f kj2 l0).bind fun YV => ((Zj.f kj2 YV).bind fun Yv => ((XT.f kj2 YV).bind fun Kb => ((XP.f kj2 Yv Kb).bind fun RN => (if RN = true then ((Xi.f kj2 YV).bind fun W9 => (Xo.j1 kj2 l1 YV Yv (!W9))) else (Xo.j1 kj2 l1 YV Yv true)))))) = some r := by rw [if_neg (show ¬ (false = true) by decide)] at H; exact H
    clear H; have H := H1; clear H1; replace H := Option.bind_eq_some_iff.mp H; obtain ⟨YV, A60, H⟩ := H; replace H : ((Zj.f kj2 YV).bind fun Yv => ((XT.f kj2 YV).bind fun Kb => ((XP.f kj2 Yv Kb).bind fun RN => (if RN = true then ((Xi.f kj2 YV).bind fun W9 => (Xo.j1 kj2 l1 YV Yv (!W9))) else (Xo.j1 kj2 l1 YV Yv true))))) = some r := H; have A6 := az A60; clear A60; replace H := Option.bind_eq_some_iff.mp H; obtain ⟨Yv, A70, H⟩ := H; replace H : ((XT.f kj2 YV).bind fun Kb => ((XP.f kj2 Yv Kb).bind fun RN => (if RN = true then ((Xi.f kj2 YV).bind fun W9 => (Xo.j1 kj2 l1 YV Yv (!W9))) else (Xo.j1 kj2 l1 YV Yv true)))) = some r := H; have A7 := az A70; clear A70; have HC8 := az H; clear H
    go_upto_region 5 with (first | ((with_reducible refine Xg (f := 70) rfl ?_); refine Xz (some 20) rfl rfl Try.func70 zb14 rfl #[.slice A0 l0.length c0] rfl zb0 ?_; (with_reducible refine (Vm.calls kj2 _ _ l0 YV _ ?side1 ?side2 A6.out).mono ?_); (case side1 => exact zb15); (case side2 => exact HC0.out); rintro e w9 ⟨v331, rfl, ho0, hb⟩; refine ⟨_, rfl, ?_⟩; have Wh := az (Kd.Pj ho0 (Xr zb1)); replace HB := az (Xe zb1 hb); (try clear hb); (try clear hb2); (try clear hk); (try clear hi); (try clear ho0); obtain ⟨VL, Vk, eo10, _⟩ := Kd.CW Wh.out; subst eo10) | ((with_reducible refine Xg (f := 66) rfl ?_); refine Xz (some 22) rfl rfl Try.func66 zb14 rfl #[.slice VL YV.length Vk] rfl zb0 ?_; (with_reducible refine (Zj.calls kj2 _ _ YV Yv _ ?side1 ?side2 A7.out).mono ?_); (case side1 => exact zb71); (case side2 => exact (Kd.XF Wh.out).2.1); rintro e w11 ⟨Xn8, rfl, ho0, hb⟩; refine ⟨_, rfl, ?_⟩; replace Wh := az (Kd.YL zb56 hb); have P5 := az (Kd.Ye ho0 (Xr zb1)); replace HB := az (Xe zb1 hb); (try clear hb); (try clear hb2); (try clear hk); (try clear hi); (try clear ho0)))
    (try simp only [Act.put, List.setIfInBounds_toArray, List.set_cons_zero, List.set_cons_succ])
    go_cut [32] (fun v32 wc => ∃ (kq : Nat) (Xdg : Bool), v32 = .bool Xdg ∧ Aside0 (Xo.j1 kq l1 YV Yv Xdg = some r) ∧ Aside0 (kq ≤ kj2) ∧ Aside0 (Kd.Q k41 41 wc w.heap.size (fun _ => True) (.slice VL YV.length Vk) YV) ∧ Aside0 (Kd.R (Kd.int .i64) 3 wc w.heap.size (fun _ => True) Xn8 Yv) ∧ Aside0 (Below w.heap.size w wc))
    case first =>
     have H := HC8.out; clear HC8; replace H := Option.bind_eq_some_iff.mp H; obtain ⟨Kb, BP, H⟩ := H; replace H : ((XP.f kj2 Yv Kb).bind fun RN => (if RN = true then ((Xi.f kj2 YV).bind fun W9 => (Xo.j1 kj2 l1 YV Yv (!W9))) else (Xo.j1 kj2 l1 YV Yv true))) = some r := H; have A12 := az BP; clear BP; replace H := Option.bind_eq_some_iff.mp H; obtain ⟨RN, A130, H⟩ := H; replace H : (if RN = true then ((Xi.f kj2 YV).bind fun W9 => (Xo.j1 kj2 l1 YV Yv (!W9))) else (Xo.j1 kj2 l1 YV Yv true)) = some r := H; have A13 := az A130; clear A130
     by_cases c14 : RN = true
     ·subst c14
      have H1 : ((Xi.f kj2 YV).bind fun W9 => (Xo.j1 kj2 l1 YV Yv (!W9))) = some r := by rw [if_pos rfl] at H; exact H
      clear H; have H := H1; clear H1; replace H := Option.bind_eq_some_iff.mp H; obtain ⟨W9, XfC, H⟩ := H; replace H : (Xo.j1 kj2 l1 YV Yv (!W9)) = some r := H; have A15 := az XfC; clear XfC; have H' := az H; clear H
      go_wp2_with (first | ((with_reducible refine Xg (f := 65) rfl ?_); refine Xz (some 25) rfl rfl Try.func65 zb14 rfl #[.slice VL YV.length Vk] rfl zb0 ?_; (with_reducible refine (XT.calls kj2 _ _ YV Kb _ ?side1 ?side2 A12.out).mono ?_); (case side1 => exact zb71); (case side2 => exact (Kd.XF Wh.out).2.1); rintro e w16 ⟨v337, rfl, ho0, hb⟩; refine ⟨_, rfl, ?_⟩; replace Wh := az (Kd.YL zb56 hb); have Re := az (Kd.Ye (Kd.Dk ho0 (Kd.Fe zb77)) (Xr zb1)); replace P5 := az (Kd.JZ zb77 (Kd.ZH ho0) hb); replace HB := az (Xe zb1 hb); (try clear hb); (try clear hb2); (try clear hk); (try clear hi); (try clear ho0); obtain ⟨Ao17, co17, eo17⟩ := Kd.Xx P5.out; subst eo17; obtain ⟨Xn6, Xn7, eo18⟩ := Kd.Xx Re.out; subst eo18) | ((with_reducible refine Xg (f := 64) rfl ?_); refine Xz (some 26) rfl rfl Try.func64 zb14 rfl #[.slice Ao17 Yv.length co17, .slice Xn6 Kb.length Xn7] rfl zb0 ?_; (with_reducible refine (XP.calls kj2 _ _ Yv _ _ Kb true _ ?side1 ?side2 ?side3 ?side4 A13.out).mono ?_); (case side1 => exact zb130); (case side2 => exact (Kd.Xk P5.out).2.1); (case side3 => exact zb129); (case side4 => exact (Kd.Xk Re.out).2.1); rintro e w' ⟨rfl, ⟨nd, rfl⟩⟩; refine ⟨_, rfl, ?_⟩) | (go_at_call 32; (with_reducible refine (Xi.calls kj2 _ _ YV W9 _ ?side1 ?side2 A15.out).mono ?_); (case side1 => exact zb71); (case side2 => exact (Kd.XF Wh.out).2.1); rintro e w19 ⟨rfl, hb⟩; replace Wh := az (Kd.YL zb56 hb); replace P5 := az (Kd.XA zb77 hb); replace Re := az (Kd.XA (by (with_reducible repeat (first | apply Kd.Yf | apply Kd.Ym | apply Kd.Y3)); exact Re.out) hb); replace HB := az (Xe zb1 hb); (try clear hb); (try clear hb2); (try clear hk); (try clear hi)))
      go_meet
      case rel => exact ⟨_, (!W9), zb12, H', ⟨zb161⟩, ⟨zb56⟩, ⟨zb137⟩, ⟨zb1⟩⟩
     ·replace c14 := Bool.eq_false_iff.mpr c14
      subst c14
      have H1 : (Xo.j1 kj2 l1 YV Yv true) = some r := by rw [if_neg (show ¬ (false = true) by decide)] at H; exact H
      clear H; have H := H1; clear H1; have H' := az H; clear H
      go_wp2_with (first | ((with_reducible refine Xg (f := 65) rfl ?_); refine Xz (some 25) rfl rfl Try.func65 zb14 rfl #[.slice VL YV.length Vk] rfl zb0 ?_; (with_reducible refine (XT.calls kj2 _ _ YV Kb _ ?side1 ?side2 A12.out).mono ?_); (case side1 => exact zb71); (case side2 => exact (Kd.XF Wh.out).2.1); rintro e w20 ⟨v337, rfl, ho0, hb⟩; refine ⟨_, rfl, ?_⟩; replace Wh := az (Kd.YL zb56 hb); have Re := az (Kd.Ye (Kd.Dk ho0 (Kd.Fe zb77)) (Xr zb1)); replace P5 := az (Kd.JZ zb77 (Kd.ZH ho0) hb); replace HB := az (Xe zb1 hb); (try clear hb); (try clear hb2); (try clear hk); (try clear hi); (try clear ho0); obtain ⟨Ao21, co21, eo21⟩ := Kd.Xx P5.out; subst eo21; obtain ⟨Ao22, co22, eo22⟩ := Kd.Xx Re.out; subst eo22) | ((with_reducible refine Xg (f := 64) rfl ?_); refine Xz (some 26) rfl rfl Try.func64 zb14 rfl #[.slice Ao21 Yv.length co21, .slice Ao22 Kb.length co22] rfl zb0 ?_; (with_reducible refine (XP.calls kj2 _ _ Yv _ _ Kb false _ ?side1 ?side2 ?side3 ?side4 A13.out).mono ?_); (case side1 => exact zb130); (case side2 => exact (Kd.Xk P5.out).2.1); (case side3 => exact zb129); (case side4 => exact (Kd.Xk Re.out).2.1); rintro e w' ⟨rfl, ⟨nd, rfl⟩⟩; refine ⟨_, rfl, ?_⟩))
      go_meet
      case rel => exact ⟨_, (true), zb12, H', ⟨zb161⟩, ⟨zb56⟩, ⟨zb137⟩, ⟨zb1⟩⟩
    case rest =>
     clear HC8;(try clear c1);(try clear p2);(try clear c4);(try clear c4b0);(try clear c4b1);(try clear c5);(try clear c6);(try clear c7);(try clear c14);(try clear c19);(try clear p2)
     obtain ⟨kq, Xdg, rfl, HA, HJ7, HO_5, HO_6, HB⟩ := hcut
     cases kq with
     | zero => exact absurd HA.out (by simp [Xo.j1])
     | succ kj7 =>
      have H := HA.out; clear HA; simp only [Xo.j1] at H
      by_cases c23 : Xdg = true
      ·subst c23
       have H1 : ((XT.f kj7 YV).bind fun XaD => ((XP.f kj7 Yv XaD).bind fun XaE => (some XaE))) = some r := by rw [if_pos rfl] at H; exact H
       clear H; have H := H1; clear H1; replace H := Option.bind_eq_some_iff.mp H; obtain ⟨XaD, Xan, H⟩ := H; replace H : ((XP.f kj7 Yv XaD).bind fun XaE => (some XaE)) = some r := H; have A24 := az Xan; clear Xan; replace H := Option.bind_eq_some_iff.mp H; obtain ⟨XaE, A250, H⟩ := H; replace H : (some XaE) = some r := H; have A25 := az A250; clear A250; obtain rfl := Option.some.inj H
       go_wp2_with (first | ((with_reducible refine Xg (f := 65) rfl ?_); refine Xz (some 35) rfl rfl Try.func65 zb14 rfl #[.slice VL YV.length Vk] rfl zb0 ?_; (with_reducible refine (XT.calls kj7 _ _ YV XaD _ ?side1 ?side2 A24.out).mono ?_); (case side1 => exact zb23); (case side2 => exact zb123); rintro e w26 ⟨v342, rfl, ho0, hb⟩; refine ⟨_, rfl, ?_⟩; replace HO_5 := az (Kd.YL zb13 hb); have Xgb := az (Kd.Ye (Kd.Dk ho0 (Kd.Fe zb16)) (Xr zb1)); replace HO_6 := az (Kd.JZ zb16 (Kd.ZH ho0) hb); replace HB := az (Xe zb1 hb); (try clear hb); (try clear hb2); (try clear hk); (try clear hi); (try clear ho0); obtain ⟨Ng, Nh, eo27⟩ := Kd.Xx HO_6.out; subst eo27; obtain ⟨Ao28, co28, eo28⟩ := Kd.Xx Xgb.out; subst eo28) | ((with_reducible refine Xg (f := 64) rfl ?_); refine Xz (some 36) rfl rfl Try.func64 zb14 rfl #[.slice Ng Yv.length Nh, .slice Ao28 XaD.length co28] rfl zb0 ?_; (with_reducible refine (XP.calls kj7 _ _ Yv _ _ XaD XaE _ ?side1 ?side2 ?side3 ?side4 A25.out).mono ?_); (case side1 => repeat (first | exact (Kd.Xk HO_6.out).2.2 | (with_reducible refine Kd.Z0 ?_ _) | (with_reducible refine Kd.Z4 ?_ _) | (with_reducible refine Kd.Jt ?_))); (case side2 => exact (Kd.Xk HO_6.out).2.1); (case side3 => repeat (first | exact (Kd.Xk Xgb.out).2.2 | (with_reducible refine Kd.Z0 ?_ _) | (with_reducible refine Kd.Z4 ?_ _) | (with_reducible refine Kd.Jt ?_))); (case side4 => exact (Kd.Xk Xgb.out).2.1); rintro e w' ⟨rfl, ⟨nd, rfl⟩⟩; refine ⟨_, rfl, ?_⟩))
       go_ret
       exact ⟨zb8, zb1⟩
      ·replace c23 := Bool.eq_false_iff.mpr c23
       subst c23
       have H1 : (Xo.l0 kj7 l1 YV Yv 0 1) = some r := by rw [if_neg (show ¬ (false = true) by decide)] at H; exact H
       clear H; have H := H1; clear H1; have H' := az H; clear H
       go_wp2
       go_loopg [7, 8] kj7 (fun kq v7 v8 w' => ∃ (VG : Int) (UA : Int), v7 = .int .i64 VG ∧ v8 = .int .i64 UA ∧ Aside0 (Xo.l0 kq l1 YV Yv VG UA = some r) ∧ Aside0 (kq ≤ kj7) ∧ Aside0 (Kd.Q k41 41 w' w.heap.size (fun _ => True) (.slice VL YV.length Vk) YV) ∧ Aside0 (Kd.R (Kd.int .i64) 3 w' w.heap.size (fun _ => True) Xn8 Yv) ∧ Aside0 (Below w.heap.size w w'))
       case atStart => exact ⟨(0), (1), zb12, zb12, H', ⟨Nat.le_refl _⟩, ⟨zb13⟩, ⟨zb16⟩, ⟨zb1⟩⟩
       case round =>
        clear H';(try clear c1);(try clear c2);(try clear p2);(try clear c4);(try clear c4b0);(try clear c4b1);(try clear c5);(try clear c6);(try clear c7);(try clear c14);(try clear c19);(try clear c23);(try clear p2)
        obtain ⟨VG, UA, rfl, rfl, HA, HK3, HO_5, HO_6, HB⟩ := hrel
        cases gk with
        | zero => exact absurd HA.out (by simp [Xo.l0])
        | succ k3 =>
         have H := HA.out; clear HA; simp only [Xo.l0] at H
         by_cases c29 : UA ≤ 3
         ·rw [if_pos c29] at H
          have Xa5 : decide (UA ≤ 3) = true := decide_eq_true c29; clear c29; replace H := Option.bind_eq_some_iff.mp H; obtain ⟨O7, XfF, H⟩ := H; replace H : (if O7 > 0 then (if VG ≥ (Yv.length : Int) then (some false) else (if 0 ≤ VG then (if VG < (Yv.length : Int) then (if (rd Yv VG) = UA then (Xo.l0 k3 l1 YV Yv (wrap64 (VG + 1)) (wrap64 (UA + 1))) else (some false)) else (none)) else (none))) else (Xo.l0 k3 l1 YV Yv VG (wrap64 (UA + 1)))) = some r := H; have A30 := az XfF; clear XfF
          by_cases c31 : O7 > 0
          ·rw [if_pos c31] at H
           have XfW : decide (0 < O7) = true := decide_eq_true c31; clear c31
           by_cases c32 : VG ≥ (Yv.length : Int)
           ·rw [if_pos c32] at H
            have XfX : decide ((Yv.length : Int) ≤ VG) = true := decide_eq_true c32; clear c32; obtain rfl := Option.some.inj H
            go_wp2_with (first | ((with_reducible refine Xg (f := 37) rfl ?_); refine Xz (some 43) rfl rfl Try.func37 zb14 rfl #[.slice VL YV.length Vk, .int .i64 UA] rfl zb0 ?_; (with_reducible refine (Y5.calls k3 _ _ YV UA O7 _ ?side1 ?side2 A30.out).mono ?_); (case side1 => exact zb23); (case side2 => exact zb123); rintro e w33 ⟨rfl, hb⟩; refine ⟨_, rfl, ?_⟩; replace HO_5 := az (Kd.YL zb13 hb); replace HO_6 := az (Kd.XA zb16 hb); replace HB := az (Xe zb1 hb); (try clear hb); (try clear hb2); (try clear hk); (try clear hi); obtain ⟨Ao34, co34, eo34⟩ := Kd.Xx HO_6.out; subst eo34))
            go_ret
            exact ⟨zb8, zb1⟩
           ·rw [if_neg c32] at H
            have XfX : decide ((Yv.length : Int) ≤ VG) = false := decide_eq_false c32; clear c32
            by_cases c35 : 0 ≤ VG
            ·rw [if_pos c35] at H
             have Bn : decide (0 ≤ VG) = true := decide_eq_true c35; clear c35
             by_cases c36 : VG < (Yv.length : Int)
             ·rw [if_pos c36] at H
              have Xms : decide (VG < (Yv.length : Int)) = true := decide_eq_true c36; clear c36
              by_cases c37 : (rd Yv VG) = UA
              ·rw [if_pos c37] at H
               have Xmx : ((rd Yv VG) == UA) = true := beq_iff_eq.mpr c37; have Xmy : ((rd Yv VG) != UA) = false := bne_eq_false_iff_eq.mpr c37; clear c37; have H' := az H; clear H
               go_wp2_with (first | ((with_reducible refine Xg (f := 37) rfl ?_); refine Xz (some 43) rfl rfl Try.func37 zb14 rfl #[.slice VL YV.length Vk, .int .i64 UA] rfl zb0 ?_; (with_reducible refine (Y5.calls k3 _ _ YV UA O7 _ ?side1 ?side2 A30.out).mono ?_); (case side1 => exact zb23); (case side2 => exact zb123); rintro e w38 ⟨rfl, hb⟩; refine ⟨_, rfl, ?_⟩; replace HO_5 := az (Kd.YL zb13 hb); replace HO_6 := az (Kd.XA zb16 hb); replace HB := az (Xe zb1 hb); (try clear hb); (try clear hb2); (try clear hk); (try clear hi); obtain ⟨Ao39, co39, eo39⟩ := Kd.Xx HO_6.out; subst eo39; have XaF : 0 ≤ (VG : Int) := of_decide_eq_true zb7; have XaG : VG < (Yv.length : Int) := of_decide_eq_true zb7; obtain ⟨Xtf, Xn9, Xdh⟩ := Kd.Jl (Kd.Xk HO_6.out).2.2 VG XaF XaG; cases Xn9; replace XaF := eq_true XaF; replace XaG := eq_true XaG))
               go_roundg k3
               case measure => have := HJ2.out; have := HJ7.out; have := HK3.out; omega
               case rel => exact ⟨(wrap64 (VG + 1)), (wrap64 (UA + 1)), zb12, zb12, H', ⟨by have := HJ2.out; have := HJ7.out; have := HK3.out; omega⟩, ⟨zb13⟩, ⟨zb16⟩, ⟨zb1⟩⟩
              ·rw [if_neg c37] at H
               have Xmx : ((rd Yv VG) == UA) = false := beq_eq_false_iff_ne.mpr c37; have Xmy : ((rd Yv VG) != UA) = true := bne_iff_ne.mpr c37; obtain rfl := Option.some.inj H
               go_wp2_with (first | ((with_reducible refine Xg (f := 37) rfl ?_); refine Xz (some 43) rfl rfl Try.func37 zb14 rfl #[.slice VL YV.length Vk, .int .i64 UA] rfl zb0 ?_; (with_reducible refine (Y5.calls k3 _ _ YV UA O7 _ ?side1 ?side2 A30.out).mono ?_); (case side1 => exact zb23); (case side2 => exact zb123); rintro e w40 ⟨rfl, hb⟩; refine ⟨_, rfl, ?_⟩; replace HO_5 := az (Kd.YL zb13 hb); replace HO_6 := az (Kd.XA zb16 hb); replace HB := az (Xe zb1 hb); (try clear hb); (try clear hb2); (try clear hk); (try clear hi); obtain ⟨Ao41, co41, eo41⟩ := Kd.Xx HO_6.out; subst eo41; have XaF : 0 ≤ (VG : Int) := of_decide_eq_true zb7; have XaG : VG < (Yv.length : Int) := of_decide_eq_true zb7; obtain ⟨Xtf, Xn9, Xdh⟩ := Kd.Jl (Kd.Xk HO_6.out).2.2 VG XaF XaG; cases Xn9; replace XaF := eq_true XaF; replace XaG := eq_true XaG))
               go_ret
               exact ⟨zb8, zb1⟩
             ·rw [if_neg c36] at H
              exact absurd H (by simp)
            ·rw [if_neg c35] at H
             exact absurd H (by simp)
          ·rw [if_neg c31] at H
           have XfW : decide (0 < O7) = false := decide_eq_false c31; clear c31; have H' := az H; clear H
           go_wp2_with (first | ((with_reducible refine Xg (f := 37) rfl ?_); refine Xz (some 43) rfl rfl Try.func37 zb14 rfl #[.slice VL YV.length Vk, .int .i64 UA] rfl zb0 ?_; (with_reducible refine (Y5.calls k3 _ _ YV UA O7 _ ?side1 ?side2 A30.out).mono ?_); (case side1 => exact zb23); (case side2 => exact zb123); rintro e w42 ⟨rfl, hb⟩; refine ⟨_, rfl, ?_⟩; replace HO_5 := az (Kd.YL zb13 hb); replace HO_6 := az (Kd.XA zb16 hb); replace HB := az (Xe zb1 hb); (try clear hb); (try clear hb2); (try clear hk); (try clear hi)))
           go_roundg k3
           case measure => have := HJ2.out; have := HJ7.out; have := HK3.out; omega
           case rel => exact ⟨(VG), (wrap64 (UA + 1)), zb12, zb12, H', ⟨by have := HJ2.out; have := HJ7.out; have := HK3.out; omega⟩, ⟨zb13⟩, ⟨zb16⟩, ⟨zb1⟩⟩
         ·rw [if_neg c29] at H
          have Xa5 : decide (UA ≤ 3) = false := decide_eq_false c29; clear c29; have XnA := az H; clear H
          go_upto_region 15 with (fail)
          go_cut [66] (fun v66 wc => ∃ (kq : Nat) (Qs : Bool), v66 = .bool Qs ∧ Aside0 (Xo.j3 kq l1 YV Yv VG Qs = some r) ∧ Aside0 (kq ≤ k3) ∧ Aside0 (Kd.Q k41 41 wc w.heap.size (fun _ => True) (.slice VL YV.length Vk) YV) ∧ Aside0 (Kd.R (Kd.int .i64) 3 wc w.heap.size (fun _ => True) Xn8 Yv) ∧ Aside0 (Below w.heap.size w wc))
          case first =>
           have H := XnA.out; clear XnA
           by_cases c44 : (Yv.length : Int) = 0
           ·rw [if_pos c44] at H
            have OZ : ((Yv.length : Int) == 0) = true := beq_iff_eq.mpr c44; have Xmz : ((Yv.length : Int) != 0) = false := bne_eq_false_iff_eq.mpr c44; clear c44
            (first | rw [OZ] | (simp only [XB, XK]; rw [OZ]) | skip)
            have H' := az H; clear H; obtain ⟨Ao45, co45, eo45⟩ := Kd.Xx HO_6.out; subst eo45
            go_wp2
            go_meet
            case rel => exact ⟨_, (true), zb12, H', ⟨by have := HJ2.out; have := HJ7.out; have := HK3.out; first | omega | exact Nat.le_refl _⟩, ⟨zb13⟩, ⟨zb16⟩, ⟨zb1⟩⟩
           ·rw [if_neg c44] at H
            have OZ : ((Yv.length : Int) == 0) = false := beq_eq_false_iff_ne.mpr c44; have Xmz : ((Yv.length : Int) != 0) = true := bne_iff_ne.mpr c44
            have Xtg : ¬ (Yv = []) := fun h_ => c44 (by rw [h_]; rfl)
            (first | rw [OZ] | (simp only [XB, XK]; rw [OZ]) | skip)
            have H' := az H; clear H; obtain ⟨Ao46, co46, eo46⟩ := Kd.Xx HO_6.out; subst eo46
            go_wp2
            go_meet
            case rel => exact ⟨_, (((YV.length : Int) == 150)), zb12, H', ⟨by have := HJ2.out; have := HJ7.out; have := HK3.out; first | omega | exact Nat.le_refl _⟩, ⟨zb13⟩, ⟨zb16⟩, ⟨zb1⟩⟩
          case rest =>
           clear XnA;(try clear c1);(try clear c2);(try clear p2);(try clear c3);(try clear p3);(try clear q3);(try clear hx3);(try clear c4);(try clear c4b0);(try clear c4b1);(try clear c5);(try clear c6);(try clear p6);(try clear c7);(try clear c14);(try clear c19);(try clear c23);(try clear c29);(try clear Xa5);(try clear c31);(try clear XfW);(try clear c32);(try clear XfX);(try clear p34);(try clear q34);(try clear hx34);(try clear c35);(try clear Bn);(try clear c36);(try clear Xms);(try clear c37);(try clear Xmx);(try clear Xmy);(try clear c44);(try clear OZ);(try clear Xmz);(try clear Xtg);(try clear Xdh);(try clear p2);(try clear XaF);(try clear XaG)
           obtain ⟨kq, Qs, rfl, HA, HJ42, HO_5, HO_6, HB⟩ := hcut
           cases kq with
           | zero => exact absurd HA.out (by simp [Xo.j3])
           | succ Fh =>
            have H := HA.out; clear HA; simp only [Xo.j3] at H
            by_cases c47 : Qs = true
            ·subst c47
             have H1 : (some (VG == (Yv.length : Int))) = some r := by rw [if_pos rfl] at H; exact H
             clear H; have H := H1; clear H1; obtain rfl := Option.some.inj H; obtain ⟨Ao48, co48, eo48⟩ := Kd.Xx HO_6.out; subst eo48
             go_wp2
             go_ret
             exact ⟨zb8, zb1⟩
            ·replace c47 := Bool.eq_false_iff.mpr c47
             subst c47
             have H1 : (if (Yv.length : Int) = 0 then (none) else (if 0 ≤ ((l1.length : Int) % (Yv.length : Int)) then (if ((l1.length : Int) % (Yv.length : Int)) < (Yv.length : Int) then ((some (([] : List (S41)) : List (S41))).bind fun Px => (if Px.length + YV.length < 2199023255552 then ((some (Px ++ YV : List (S41))).bind fun Np => ((Y5.f Fh YV (rd Yv ((l1.length : Int) % (Yv.length : Int)))).bind fun Zv => (if Np.length < 2199023255552 then ((some (Np ++ [(⟨4, rd Yv ((l1.length : Int) % (Yv.length : Int)), 0, 0, 0, 0, Zv, 0⟩ : S41)] : List (S41))).bind fun U1 => (if VG = (Yv.length : Int) then ((Xq.f Fh U1).bind fun N9 => (if N9 = true then ((Zj.f Fh U1).bind fun FJ => ((Yz.f Fh FJ (rd Yv ((l1.length : Int) % (Yv.length : Int)))).bind fun Ur => (some (!Ur)))) else (some false))) else (some false))) else (none)))) else (none))) else (none)) else (none))) = some r := by rw [if_neg (show ¬ (false = true) by decide)] at H; exact H
             clear H; have H := H1; clear H1
             by_cases c49 : (Yv.length : Int) = 0
             ·rw [if_pos c49] at H
              exact absurd H (by simp)
             ·rw [if_neg c49] at H
              have c49b0 : ((Yv.length : Int) == 0) = false := beq_eq_false_iff_ne.mpr c49; have c49b1 : ((Yv.length : Int) != 0) = true := bne_iff_ne.mpr c49
              have c49b2 : ¬ (Yv = []) := fun h_ => c49 (by rw [h_]; rfl)
              obtain ⟨Vx, Xcp⟩ : ∃ j_ : Int, ((l1.length : Int) % (Yv.length : Int)) = j_ := ⟨_, rfl⟩
              replace H : (if 0 ≤ (Vx) then (if (Vx) < (Yv.length : Int) then ((some (([] : List (S41)) : List (S41))).bind fun Px => (if Px.length + YV.length < 2199023255552 then ((some (Px ++ YV : List (S41))).bind fun Np => ((Y5.f Fh YV (rd Yv (Vx))).bind fun Zv => (if Np.length < 2199023255552 then ((some (Np ++ [(⟨4, rd Yv (Vx), 0, 0, 0, 0, Zv, 0⟩ : S41)] : List (S41))).bind fun U1 => (if VG = (Yv.length : Int) then ((Xq.f Fh U1).bind fun N9 => (if N9 = true then ((Zj.f Fh U1).bind fun FJ => ((Yz.f Fh FJ (rd Yv (Vx))).bind fun Ur => (some (!Ur)))) else (some false))) else (some false))) else (none)))) else (none))) else (none)) else (none)) = some r := by first | (rw [Xcp] at H; exact H) | (simp only [Xcp] at H ⊢; exact H)
              by_cases c51 : 0 ≤ (Vx)
              ·rw [if_pos c51] at H
               have c51b0 : decide (0 ≤ (Vx)) = true := decide_eq_true c51; clear c51
               by_cases c52 : (Vx) < (Yv.length : Int)
               ·rw [if_pos c52] at H
                have c52b0 : decide ((Vx) < (Yv.length : Int)) = true := decide_eq_true c52; clear c52
                obtain ⟨Px, hy348⟩ : ∃ y_ : List (S41), y_ = (([] : List (S41))) := ⟨_, rfl⟩
                replace H : (if Px.length + YV.length < 2199023255552 then ((some (Px ++ YV : List (S41))).bind fun Np => ((Y5.f Fh YV (rd Yv (Vx))).bind fun Zv => (if Np.length < 2199023255552 then ((some (Np ++ [(⟨4, rd Yv (Vx), 0, 0, 0, 0, Zv, 0⟩ : S41)] : List (S41))).bind fun U1 => (if VG = (Yv.length : Int) then ((Xq.f Fh U1).bind fun N9 => (if N9 = true then ((Zj.f Fh U1).bind fun FJ => ((Yz.f Fh FJ (rd Yv (Vx))).bind fun Ur => (some (!Ur)))) else (some false))) else (some false))) else (none)))) else (none)) = some r := by first | (rw [hy348]; with_reducible exact H) | (have H2_ := (Option.bind_some _ _).symm.trans H; rw [hy348]; with_reducible exact H2_) | (have H2_ := (Option.bind_some _ _).symm.trans H; with_reducible exact H2_) | with_reducible exact H | (rw [hy348]; exact H) | exact H
                have Ny348 := az hy348; clear hy348
                by_cases c53 : Px.length + YV.length < 2199023255552
                ·rw [if_pos c53] at H
                 have LMc53 := az c53; clear c53
                 obtain ⟨Np, hy351⟩ : ∃ y_ : List (S41), y_ = (Px ++ YV) := ⟨_, rfl⟩
                 replace H : ((Y5.f Fh YV (rd Yv (Vx))).bind fun Zv => (if Np.length < 2199023255552 then ((some (Np ++ [(⟨4, rd Yv (Vx), 0, 0, 0, 0, Zv, 0⟩ : S41)] : List (S41))).bind fun U1 => (if VG = (Yv.length : Int) then ((Xq.f Fh U1).bind fun N9 => (if N9 = true then ((Zj.f Fh U1).bind fun FJ => ((Yz.f Fh FJ (rd Yv (Vx))).bind fun Ur => (some (!Ur)))) else (some false))) else (some false))) else (none))) = some r := by first | (rw [hy351]; with_reducible exact H) | (have H2_ := (Option.bind_some _ _).symm.trans H; rw [hy351]; with_reducible exact H2_) | (have H2_ := (Option.bind_some _ _).symm.trans H; with_reducible exact H2_) | with_reducible exact H | (rw [hy351]; exact H) | exact H
                 have Ny351 := az hy351; clear hy351; replace H := Option.bind_eq_some_iff.mp H; obtain ⟨Zv, A540, H⟩ := H; replace H : (if Np.length < 2199023255552 then ((some (Np ++ [(⟨4, rd Yv (Vx), 0, 0, 0, 0, Zv, 0⟩ : S41)] : List (S41))).bind fun U1 => (if VG = (Yv.length : Int) then ((Xq.f Fh U1).bind fun N9 => (if N9 = true then ((Zj.f Fh U1).bind fun FJ => ((Yz.f Fh FJ (rd Yv (Vx))).bind fun Ur => (some (!Ur)))) else (some false))) else (some false))) else (none)) = some r := H; have A54 := az A540; clear A540
                 by_cases c55 : Np.length < 2199023255552
                 ·rw [if_pos c55] at H
                  have LMc55 := az c55; clear c55
                  obtain ⟨U1, hy355⟩ : ∃ y_ : List (S41), y_ = (Np ++ [(⟨4, rd Yv (Vx), 0, 0, 0, 0, Zv, 0⟩ : S41)]) := ⟨_, rfl⟩
                  replace H : (if VG = (Yv.length : Int) then ((Xq.f Fh U1).bind fun N9 => (if N9 = true then ((Zj.f Fh U1).bind fun FJ => ((Yz.f Fh FJ (rd Yv (Vx))).bind fun Ur => (some (!Ur)))) else (some false))) else (some false)) = some r := by first | (rw [hy355]; with_reducible exact H) | (have H2_ := (Option.bind_some _ _).symm.trans H; rw [hy355]; with_reducible exact H2_) | (have H2_ := (Option.bind_some _ _).symm.trans H; with_reducible exact H2_) | with_reducible exact H | (rw [hy355]; exact H) | exact H
                  have Ny355 := az hy355; clear hy355
                  by_cases c56 : VG = (Yv.length : Int)
                  ·rw [if_pos c56] at H
                   have XfG : (VG == (Yv.length : Int)) = true := beq_iff_eq.mpr c56; have XfH : (VG != (Yv.length : Int)) = false := bne_eq_false_iff_eq.mpr c56; clear c56; replace H := Option.bind_eq_some_iff.mp H; obtain ⟨N9, XfI, H⟩ := H; replace H : (if N9 = true then ((Zj.f Fh U1).bind fun FJ => ((Yz.f Fh FJ (rd Yv (Vx))).bind fun Ur => (some (!Ur)))) else (some false)) = some r := H; have A57 := az XfI; clear XfI
                   by_cases c58 : N9 = true
                   ·subst c58
                    have H1 : ((Zj.f Fh U1).bind fun FJ => ((Yz.f Fh FJ (rd Yv (Vx))).bind fun Ur => (some (!Ur)))) = some r := by rw [if_pos rfl] at H; exact H
                    clear H; have H := H1; clear H1; replace H := Option.bind_eq_some_iff.mp H; obtain ⟨FJ, A590, H⟩ := H; replace H : ((Yz.f Fh FJ (rd Yv (Vx))).bind fun Ur => (some (!Ur))) = some r := H; have A59 := az A590; clear A590; replace H := Option.bind_eq_some_iff.mp H; obtain ⟨Ur, A600, H⟩ := H; replace H : (some (!Ur)) = some r := H; have A60 := az A600; clear A600; obtain rfl := Option.some.inj H; obtain ⟨Ao61, co61, eo61⟩ := Kd.Xx HO_6.out; subst eo61; have BU : 0 ≤ ((Vx) : Int) := of_decide_eq_true zb7; have BV : (Vx) < (Yv.length : Int) := of_decide_eq_true zb7; obtain ⟨Xm0, Xgc, Xdi⟩ := Kd.Jl (Kd.Xk HO_6.out).2.2 (Vx) BU BV
                    cases Xgc
                    replace BU := eq_true BU; replace BV := eq_true BV
                    go_wp2_with (first | ((with_reducible refine XO (N := 79) rfl ?_); (try (refine Dl (by rfl) ?_; dsimp only)); refine Kd.Gp k41 _ 41 ?hg (N := 79) ?hd (xs := ([] : List (S41))) (inner := []) (ok := fun _ => True) (okp := fun _ => True) ?hr ?hp (fun _ hk => hk) trivial (Below.refl _ _) (Nat.le_refl _) (by simp) ?_; (case hd => rfl); (case hg => rfl); (case hr => exact zb22); (case hp => exact zb121); intro Xgd w62 ho63 hb hg_ hnew_; clear hg_ hnew_; (first | rw [← Ny348.out] at ho63 | (simp only [Int.reduceToNat] at ho63; rw [← Ny348.out] at ho63)); replace HO_6 := az (Kd.XA zb16 hb); have Bc := az (Kd.Ye (Kd.Dk ho63 (Kd.Xk8 zb13)) (Xr zb1)); replace HO_5 := az (Kd.EX zb13 (Kd.ZH ho63) hb); replace HB := az (Xe zb1 hb); clear hb ho63) | ((with_reducible refine Zh (b := .append) (xs := #[.tmp 79, .tmp 80]) rfl ?_); (try (refine Dl (by rfl) ?_; dsimp only)); at_builtin; refine Kd.Ve k41 (w0 := w) w.heap.size rfl (.tmp 79) (.tmp 80) 34 41 (.agg #[(.int .i64 0), (.int .i64 0), (.int .i64 0), (.int .i64 0), (.int .i64 0), (.int .i64 0), (.int .i64 0), (.int .i64 0)]) 64 rfl Try.underlying34 VN rfl (by decide) (by omega) Xgd Px YV _ _ _ (fun k_ => some k_ ≠ (.slice VL YV.length Vk : Value).ownBlock) (fun _ => False) rfl rfl ?aO ?aR (fun _ _ h => h) (fun _ h => h.elim) ?aF ?aB ?aS ?aL ?_; (case aR => exact zb23); (case aB => exact zb1); (case aF => exact zb155); (case aO => exact zb103); (case aS => exact (Xr zb1)); (case aL => have := LMc53.out; omega); intro Xge w64 ho hb hg hat; rw [← Ny351.out] at ho; replace HO_5 := az (Kd.Pk (ok := (fun _ => True)) zb13 hg hat); replace HO_6 := az (Kd.SI zb16 (Kd.Ug zb114) (by decide) hg); replace HB := az (hb); have Kr := az (ho); clear Bc; clear ho hb hg hat) | ((with_reducible refine Xg (f := 37) rfl ?_); refine Xz (some 85) rfl rfl Try.func37 zb14 rfl #[.slice VL YV.length Vk, .int .i64 (rd Yv (Vx))] rfl zb87 ?_; (with_reducible refine (Y5.calls Fh _ _ YV (rd Yv (Vx)) Zv _ ?side1 ?side2 A54.out).mono ?_); (case side1 => exact zb23); (case side2 => exact zb123); rintro e w65 ⟨rfl, hb⟩; refine ⟨_, rfl, ?_⟩; replace HO_5 := az (Kd.YL zb13 hb); replace HO_6 := az (Kd.XA zb16 hb); replace Kr := az (Kd.XA zb42 hb); replace HB := az (Xe zb1 hb); (try clear hb); (try clear hb2); (try clear hk); (try clear hi)) | ((with_reducible refine Zh (b := .append) (xs := #[.tmp 81, .tmp 87]) rfl ?_); (try (refine Dl (by rfl) ?_; dsimp only)); at_builtin; refine Kd.Uz k41 (w0 := w) w.heap.size rfl (.tmp 81) (.tmp 87) 34 41 (.agg #[(.int .i64 0), (.int .i64 0), (.int .i64 0), (.int .i64 0), (.int .i64 0), (.int .i64 0), (.int .i64 0), (.int .i64 0)]) 64 rfl Try.underlying34 VN rfl (by decide) (by omega) Xge Np (⟨4, rd Yv (Vx), 0, 0, 0, 0, Zv, 0⟩ : S41) [.int .i64 4, .int .i64 (rd Yv (Vx)), .int .i64 0, .int .i64 0, .int .i64 0, .int .i64 0, .int .i64 Zv, .int .i64 0] (fun k_ => some k_ ≠ (.slice VL YV.length Vk : Value).ownBlock) (fun _ => False) rfl rfl ?aP (fun _ hk => hk.elim) ?aF ?aO ?aB ?aS ?aL ?_; (case aP => exact zb145); (case aB => exact zb1); (case aF => exact zb155); (case aO => exact zb42); (case aS => exact (Xr zb1)); (case aL => have := LMc55.out; omega); intro v356 w66 ho hb hg hat; rw [← Ny355.out] at ho; replace HO_5 := az (Kd.Pk (ok := (fun _ => True)) zb13 hg hat); replace HO_6 := az (Kd.SI zb16 (Kd.Ug zb42) (by decide) hg); replace HB := az (hb); have SQ := az (ho); clear Kr; clear ho hb hg hat; obtain ⟨Ao67, co67, eo67⟩ := Kd.Xx SQ.out; subst eo67) | (go_at_call 34; (with_reducible refine (Xq.calls Fh _ _ U1 true _ ?side1 ?side2 A57.out).mono ?_); (case side1 => exact zb92); (case side2 => exact (Kd.Xk SQ.out).2.1); rintro e w68 ⟨rfl, hb⟩; replace HO_5 := az (Kd.YL zb13 hb); replace HO_6 := az (Kd.XA zb16 hb); replace SQ := az (Kd.XA zb113 hb); replace HB := az (Xe zb1 hb); (try clear hb); (try clear hb2); (try clear hk); (try clear hi)) | (go_at_call 66; (with_reducible refine (Zj.calls Fh _ _ U1 FJ _ ?side1 ?side2 A59.out).mono ?_); (case side1 => exact zb92); (case side2 => exact (Kd.Xk SQ.out).2.1); rintro e w69 ⟨v360, rfl, ho0, hb⟩; replace HO_5 := az (Kd.YL zb13 hb); replace SQ := az (Kd.XA zb113 hb); have Xgf := az (Kd.Ye (Kd.Dk ho0 (Kd.Fe zb16)) (Xr zb1)); replace HO_6 := az (Kd.JZ zb16 (Kd.ZH ho0) hb); replace HB := az (Xe zb1 hb); (try clear hb); (try clear hb2); (try clear hk); (try clear hi); (try clear ho0); obtain ⟨Ao70, co70, eo70⟩ := Kd.Xx Xgf.out; subst eo70) | (go_at_call 71; (with_reducible refine (Yz.calls Fh _ _ FJ (rd Yv (Vx)) Ur _ ?side1 ?side2 A60.out).mono ?_); (case side1 => repeat (first | exact (Kd.Xk Xgf.out).2.2 | (with_reducible refine Kd.Z0 ?_ _) | (with_reducible refine Kd.Z4 ?_ _) | (with_reducible refine Kd.Jt ?_))); (case side2 => exact (Kd.Xk Xgf.out).2.1); rintro e w' ⟨rfl, ⟨nd, rfl⟩⟩))
                    go_ret
                    exact ⟨zb85, zb1⟩
                   ·replace c58 := Bool.eq_false_iff.mpr c58
                    subst c58
                    have H1 : (some false) = some r := by rw [if_neg (show ¬ (false = true) by decide)] at H; exact H
                    clear H; have H := H1; clear H1; obtain rfl := Option.some.inj H; obtain ⟨Ao71, co71, eo71⟩ := Kd.Xx HO_6.out; subst eo71; have BU : 0 ≤ ((Vx) : Int) := of_decide_eq_true zb7; have BV : (Vx) < (Yv.length : Int) := of_decide_eq_true zb7; obtain ⟨Xm0, Xgc, Xdi⟩ := Kd.Jl (Kd.Xk HO_6.out).2.2 (Vx) BU BV
                    cases Xgc
                    replace BU := eq_true BU; replace BV := eq_true BV
                    go_wp2_with (first | ((with_reducible refine XO (N := 79) rfl ?_); (try (refine Dl (by rfl) ?_; dsimp only)); refine Kd.Gp k41 _ 41 ?hg (N := 79) ?hd (xs := ([] : List (S41))) (inner := []) (ok := fun _ => True) (okp := fun _ => True) ?hr ?hp (fun _ hk => hk) trivial (Below.refl _ _) (Nat.le_refl _) (by simp) ?_; (case hd => rfl); (case hg => rfl); (case hr => exact zb22); (case hp => exact zb121); intro Xgd w72 ho73 hb hg_ hnew_; clear hg_ hnew_; (first | rw [← Ny348.out] at ho73 | (simp only [Int.reduceToNat] at ho73; rw [← Ny348.out] at ho73)); replace HO_6 := az (Kd.XA zb16 hb); have Bc := az (Kd.Ye (Kd.Dk ho73 (Kd.Xk8 zb13)) (Xr zb1)); replace HO_5 := az (Kd.EX zb13 (Kd.ZH ho73) hb); replace HB := az (Xe zb1 hb); clear hb ho73) | ((with_reducible refine Zh (b := .append) (xs := #[.tmp 79, .tmp 80]) rfl ?_); (try (refine Dl (by rfl) ?_; dsimp only)); at_builtin; refine Kd.Ve k41 (w0 := w) w.heap.size rfl (.tmp 79) (.tmp 80) 34 41 (.agg #[(.int .i64 0), (.int .i64 0), (.int .i64 0), (.int .i64 0), (.int .i64 0), (.int .i64 0), (.int .i64 0), (.int .i64 0)]) 64 rfl Try.underlying34 VN rfl (by decide) (by omega) Xgd Px YV _ _ _ (fun k_ => some k_ ≠ (.slice VL YV.length Vk : Value).ownBlock) (fun _ => False) rfl rfl ?aO ?aR (fun _ _ h => h) (fun _ h => h.elim) ?aF ?aB ?aS ?aL ?_; (case aR => exact zb23); (case aB => exact zb1); (case aF => exact zb155); (case aO => exact zb103); (case aS => exact (Xr zb1)); (case aL => have := LMc53.out; omega); intro Xge w74 ho hb hg hat; rw [← Ny351.out] at ho; replace HO_5 := az (Kd.Pk (ok := (fun _ => True)) zb13 hg hat); replace HO_6 := az (Kd.SI zb16 (Kd.Ug zb114) (by decide) hg); replace HB := az (hb); have Kr := az (ho); clear Bc; clear ho hb hg hat) | ((with_reducible refine Xg (f := 37) rfl ?_); refine Xz (some 85) rfl rfl Try.func37 zb14 rfl #[.slice VL YV.length Vk, .int .i64 (rd Yv (Vx))] rfl zb87 ?_; (with_reducible refine (Y5.calls Fh _ _ YV (rd Yv (Vx)) Zv _ ?side1 ?side2 A54.out).mono ?_); (case side1 => exact zb23); (case side2 => exact zb123); rintro e w75 ⟨rfl, hb⟩; refine ⟨_, rfl, ?_⟩; replace HO_5 := az (Kd.YL zb13 hb); replace HO_6 := az (Kd.XA zb16 hb); replace Kr := az (Kd.XA zb42 hb); replace HB := az (Xe zb1 hb); (try clear hb); (try clear hb2); (try clear hk); (try clear hi)) | ((with_reducible refine Zh (b := .append) (xs := #[.tmp 81, .tmp 87]) rfl ?_); (try (refine Dl (by rfl) ?_; dsimp only)); at_builtin; refine Kd.Uz k41 (w0 := w) w.heap.size rfl (.tmp 81) (.tmp 87) 34 41 (.agg #[(.int .i64 0), (.int .i64 0), (.int .i64 0), (.int .i64 0), (.int .i64 0), (.int .i64 0), (.int .i64 0), (.int .i64 0)]) 64 rfl Try.underlying34 VN rfl (by decide) (by omega) Xge Np (⟨4, rd Yv (Vx), 0, 0, 0, 0, Zv, 0⟩ : S41) [.int .i64 4, .int .i64 (rd Yv (Vx)), .int .i64 0, .int .i64 0, .int .i64 0, .int .i64 0, .int .i64 Zv, .int .i64 0] (fun k_ => some k_ ≠ (.slice VL YV.length Vk : Value).ownBlock) (fun _ => False) rfl rfl ?aP (fun _ hk => hk.elim) ?aF ?aO ?aB ?aS ?aL ?_; (case aP => exact zb145); (case aB => exact zb1); (case aF => exact zb155); (case aO => exact zb42); (case aS => exact (Xr zb1)); (case aL => have := LMc55.out; omega); intro v356 w76 ho hb hg hat; rw [← Ny355.out] at ho; replace HO_5 := az (Kd.Pk (ok := (fun _ => True)) zb13 hg hat); replace HO_6 := az (Kd.SI zb16 (Kd.Ug zb42) (by decide) hg); replace HB := az (hb); have SQ := az (ho); clear Kr; clear ho hb hg hat; obtain ⟨Ao77, co77, eo77⟩ := Kd.Xx SQ.out; subst eo77) | (go_at_call 34; (with_reducible refine (Xq.calls Fh _ _ U1 false _ ?side1 ?side2 A57.out).mono ?_); (case side1 => exact zb92); (case side2 => exact (Kd.Xk SQ.out).2.1); rintro e w78 ⟨rfl, hb⟩; replace HO_5 := az (Kd.YL zb13 hb); replace HO_6 := az (Kd.XA zb16 hb); replace SQ := az (Kd.XA zb113 hb); replace HB := az (Xe zb1 hb); (try clear hb); (try clear hb2); (try clear hk); (try clear hi)))
                    go_ret
                    exact ⟨zb85, zb1⟩
                  ·rw [if_neg c56] at H
                   have XfG : (VG == (Yv.length : Int)) = false := beq_eq_false_iff_ne.mpr c56; have XfH : (VG != (Yv.length : Int)) = true := bne_iff_ne.mpr c56; obtain rfl := Option.some.inj H; obtain ⟨Ao79, co79, eo79⟩ := Kd.Xx HO_6.out; subst eo79; have BU : 0 ≤ ((Vx) : Int) := of_decide_eq_true zb7; have BV : (Vx) < (Yv.length : Int) := of_decide_eq_true zb7; obtain ⟨Xm0, Xgc, Xdi⟩ := Kd.Jl (Kd.Xk HO_6.out).2.2 (Vx) BU BV
                   cases Xgc
                   replace BU := eq_true BU; replace BV := eq_true BV
                   go_wp2_with (first | ((with_reducible refine XO (N := 79) rfl ?_); (try (refine Dl (by rfl) ?_; dsimp only)); refine Kd.Gp k41 _ 41 ?hg (N := 79) ?hd (xs := ([] : List (S41))) (inner := []) (ok := fun _ => True) (okp := fun _ => True) ?hr ?hp (fun _ hk => hk) trivial (Below.refl _ _) (Nat.le_refl _) (by simp) ?_; (case hd => rfl); (case hg => rfl); (case hr => exact zb22); (case hp => exact zb121); intro Xgd w80 ho81 hb hg_ hnew_; clear hg_ hnew_; (first | rw [← Ny348.out] at ho81 | (simp only [Int.reduceToNat] at ho81; rw [← Ny348.out] at ho81)); replace HO_6 := az (Kd.XA zb16 hb); have Bc := az (Kd.Ye (Kd.Dk ho81 (Kd.Xk8 zb13)) (Xr zb1)); replace HO_5 := az (Kd.EX zb13 (Kd.ZH ho81) hb); replace HB := az (Xe zb1 hb); clear hb ho81) | ((with_reducible refine Zh (b := .append) (xs := #[.tmp 79, .tmp 80]) rfl ?_); (try (refine Dl (by rfl) ?_; dsimp only)); at_builtin; refine Kd.Ve k41 (w0 := w) w.heap.size rfl (.tmp 79) (.tmp 80) 34 41 (.agg #[(.int .i64 0), (.int .i64 0), (.int .i64 0), (.int .i64 0), (.int .i64 0), (.int .i64 0), (.int .i64 0), (.int .i64 0)]) 64 rfl Try.underlying34 VN rfl (by decide) (by omega) Xgd Px YV _ _ _ (fun k_ => some k_ ≠ (.slice VL YV.length Vk : Value).ownBlock) (fun _ => False) rfl rfl ?aO ?aR (fun _ _ h => h) (fun _ h => h.elim) ?aF ?aB ?aS ?aL ?_; (case aR => exact zb23); (case aB => exact zb1); (case aF => exact zb155); (case aO => exact zb103); (case aS => exact (Xr zb1)); (case aL => have := LMc53.out; omega); intro Xge w82 ho hb hg hat; rw [← Ny351.out] at ho; replace HO_5 := az (Kd.Pk (ok := (fun _ => True)) zb13 hg hat); replace HO_6 := az (Kd.SI zb16 (Kd.Ug zb114) (by decide) hg); replace HB := az (hb); have Kr := az (ho); clear Bc; clear ho hb hg hat) | ((with_reducible refine Xg (f := 37) rfl ?_); refine Xz (some 85) rfl rfl Try.func37 zb14 rfl #[.slice VL YV.length Vk, .int .i64 (rd Yv (Vx))] rfl zb87 ?_; (with_reducible refine (Y5.calls Fh _ _ YV (rd Yv (Vx)) Zv _ ?side1 ?side2 A54.out).mono ?_); (case side1 => exact zb23); (case side2 => exact zb123); rintro e w83 ⟨rfl, hb⟩; refine ⟨_, rfl, ?_⟩; replace HO_5 := az (Kd.YL zb13 hb); replace HO_6 := az (Kd.XA zb16 hb); replace Kr := az (Kd.XA zb42 hb); replace HB := az (Xe zb1 hb); (try clear hb); (try clear hb2); (try clear hk); (try clear hi)) | ((with_reducible refine Zh (b := .append) (xs := #[.tmp 81, .tmp 87]) rfl ?_); (try (refine Dl (by rfl) ?_; dsimp only)); at_builtin; refine Kd.Uz k41 (w0 := w) w.heap.size rfl (.tmp 81) (.tmp 87) 34 41 (.agg #[(.int .i64 0), (.int .i64 0), (.int .i64 0), (.int .i64 0), (.int .i64 0), (.int .i64 0), (.int .i64 0), (.int .i64 0)]) 64 rfl Try.underlying34 VN rfl (by decide) (by omega) Xge Np (⟨4, rd Yv (Vx), 0, 0, 0, 0, Zv, 0⟩ : S41) [.int .i64 4, .int .i64 (rd Yv (Vx)), .int .i64 0, .int .i64 0, .int .i64 0, .int .i64 0, .int .i64 Zv, .int .i64 0] (fun k_ => some k_ ≠ (.slice VL YV.length Vk : Value).ownBlock) (fun _ => False) rfl rfl ?aP (fun _ hk => hk.elim) ?aF ?aO ?aB ?aS ?aL ?_; (case aP => exact zb145); (case aB => exact zb1); (case aF => exact zb155); (case aO => exact zb42); (case aS => exact (Xr zb1)); (case aL => have := LMc55.out; omega); intro v356 w84 ho hb hg hat; rw [← Ny355.out] at ho; replace HO_5 := az (Kd.Pk (ok := (fun _ => True)) zb13 hg hat); replace HO_6 := az (Kd.SI zb16 (Kd.Ug zb42) (by decide) hg); replace HB := az (hb); have SQ := az (ho); clear Kr; clear ho hb hg hat))
                   go_ret
                   exact ⟨zb85, zb1⟩
                 ·rw [if_neg c55] at H
                  exact absurd H (by simp)
                ·rw [if_neg c53] at H
                 exact absurd H (by simp)
               ·rw [if_neg c52] at H
                exact absurd H (by simp)
              ·rw [if_neg c51] at H
               exact absurd H (by simp)
end Go.Proofs.Ytcefiblpnegepaa.Pr
