import Derived.Test.YtphnphmbfogmlaaGreatQEByq
import Derived.Test.YtphnphmbfogmlaaGreatQEPrK
import Derived.Test.YtphnphmbfogmlaaGreatQESx
import Derived.Test.YtphnphmbfogmlaaGreatQEPrGood
import Derived.Test.YtphnphmbfogmlaaGreatQEEnP
import Derived.Test.YtphnphmbfogmlaaGreatQESizE
namespace Go.Proofs.YtphnphmbfogmlaaGreat.Pr
open Go.RowKit Go.PW Go.PL Go.PM
attribute [local go_sem] YO YP Zm Zn Yv Yw YQ YS
set_option linter.unusedVariables false
set_option linter.unusedSimpArgs false
def YL.l0 : Nat → Int → Int → List (S56) → List (S56) → List (S76) → Int → Bool → Option (Int)
 | 0, _, _, _, _, _, _, _ => none
 | k + 1, x1, x5, Xse, Xsf, Xj7, Xsg, Xsh => if x5 ≤ 3 then ((Zz.f k Xj7 x5 x1).bind fun Xsi => (if Xsi = true then (some x5) else (YL.l0 k x1 (wrap64 (x5 + 1)) Xse Xsf Xj7 Xsg Xsh))) else (some 0)
def YL.f (k : Nat) (Xm : List (S56)) (Xh : List (S56)) (Xe : List (S76)) (Xo : Int) (Xp : Bool) (a1 : Int) : Option (Int) := YL.l0 k a1 1 Xm Xh Xe Xo Xp
set_option maxHeartbeats 8000000 in
set_option maxRecDepth 100000 in
theorem YL.calls (k : Nat) (YI : Option Addr) (YB : Nat) (Xm : List (S56)) (YN : Option Addr) (YJ : Nat) (Xh : List (S56)) (XE : Option Addr) (XF : Nat) (Xe : List (S76)) (Xo : Int) (Xp : Bool) (a1 : Int) (r : Int) (w : World) (hr0_0 : Kd.C k56 w YI Xm.length Xm) (hc0_0 : Xm.length ≤ YB) (hr0_1 : Kd.C k56 w YN Xh.length Xh) (hc0_1 : Xh.length ≤ YJ) (hr0_2 : Kd.C k76 w XE Xe.length Xe) (hc0_2 : Xe.length ≤ XF) (h : YL.f k Xm Xh Xe Xo Xp a1 = some r) :
 Calls Tryz.prog 31 #[.agg #[.slice YI Xm.length YB, .slice YN Xh.length YJ, .slice XE Xe.length XF, .int .i64 Xo, .bool Xp], .int .i64 a1] w fun e w' => e = .returned (.int .i64 r) ∧ Below w.heap.size w w' := by
 have hu31 := Tryz.underlying31; have U3 := az hr0_0; have Wq := az hc0_0; clear hr0_0 hc0_0; have VC := az hr0_1; have Ws := az hc0_1; clear hr0_1 hc0_1; have VU := az hr0_2; have DY := az hc0_2; clear hr0_2 hc0_2; have HB := az (Below.refl w.heap.size w); have H : (YL.l0 k a1 1 Xm Xh Xe Xo Xp) = some r := h; clear h; have H' := az H; clear H
 go_enter Tryz.func31, Tryz.ntmps31
 go_wp2_with (first | ((with_reducible refine Xn (N := 2) rfl ?_); refine Xl ?hg (N := 2) ?hd (cs := #[.slice YI Xm.length YB, .slice YN Xh.length YJ, .slice XE Xe.length XF, .int .i64 Xo, .bool Xp]) (t := 31) ?hr ?_; (case hd => rfl); (case hg => rfl); (case hr => exact zb10); intro Xwl hg w3 hbox hb; have Ic := az (hbox); have XzQ := az ((zb129 : w.heap.size ≤ Xwl)); have GE285 := XzQ; replace HB := az (Xc zb1 hb); clear hb hbox hg))
 go_loopg [5] k (fun kq v5 w' => ∃ (Xk : Int), v5 = .int .i64 Xk ∧ Aside0 (YL.l0 kq a1 Xk Xm Xh Xe Xo Xp = some r) ∧ Aside0 (kq ≤ k) ∧ Aside0 (w'.heap[Xwl]? = some (.cells #[(.slice YI Xm.length YB), (.slice YN Xh.length YJ), (.slice XE Xe.length XF), .int .i64 Xo, .bool Xp] 31 (0, 0))) ∧ Aside0 (Below w.heap.size w w'))
 case atStart => exact ⟨(1), zb6, H', ⟨Nat.le_refl _⟩, ⟨by (with_reducible repeat (first | apply bn | apply bd | apply ba)); exact Ic.out⟩, ⟨zb0⟩⟩
 case round =>
  clear H';(try clear p2);(try clear c3)
  obtain ⟨Xk, rfl, HA, HK1, Ic, HB⟩ := hrel
  cases gk with
  | zero => exact absurd HA.out (by simp [YL.l0])
  | succ k1 =>
   have H := HA.out; clear HA; simp only [YL.l0] at H
   by_cases c4 : Xk ≤ 3
   ·rw [if_pos c4] at H
    have c4b0 : decide (Xk ≤ 3) = true := decide_eq_true c4; clear c4; replace H := Option.bind_eq_some_iff.mp H; obtain ⟨Xsi, A50, H⟩ := H; replace H : (if Xsi = true then (some Xk) else (YL.l0 k1 a1 (wrap64 (Xk + 1)) Xm Xh Xe Xo Xp)) = some r := H; have A5 := az A50; clear A50
    by_cases c6 : Xsi = true
    ·subst c6
     have H1 : (some Xk) = some r := by rw [if_pos rfl] at H; exact H
     clear H; have H := H1; clear H1; obtain rfl := Option.some.inj H; obtain ⟨Xc9, XcA, XcB, XcC, XcD⟩ := cz5 Ic; obtain ⟨XcE, XcF, XcG, XcH, XcI⟩ := fz5 Ic
     go_wp2_with (first | ((with_reducible refine Xi (f := 49) rfl ?_); refine XI (some 14) rfl rfl Tryz.func49 zb9 rfl #[.slice XE Xe.length XF, .int .i64 Xk, .int .i64 a1] rfl zb2 ?_; (with_reducible refine (Zz.calls k1 _ _ Xe Xk a1 true _ ?side1 ?side2 A5.out).mono ?_); (case side1 => exact zb5); (case side2 => exact zb92); rintro e w' ⟨rfl, ⟨nd, rfl⟩⟩; refine ⟨_, rfl, ?_⟩))
     go_ret
     exact ⟨zb4, zb0⟩
    ·replace c6 := Bool.eq_false_iff.mpr c6
     subst c6
     have H1 : (YL.l0 k1 a1 (wrap64 (Xk + 1)) Xm Xh Xe Xo Xp) = some r := by rw [if_neg (show ¬ (false = true) by decide)] at H; exact H
     clear H; have H := H1; clear H1; have H' := az H; clear H; obtain ⟨Fp, Fq, Fs, SA, SB⟩ := cz5 Ic; obtain ⟨Fu, Fv, Fw, SC, SE⟩ := fz5 Ic
     go_wp2_with (first | ((with_reducible refine Xi (f := 49) rfl ?_); refine XI (some 14) rfl rfl Tryz.func49 zb9 rfl #[.slice XE Xe.length XF, .int .i64 Xk, .int .i64 a1] rfl zb2 ?_; (with_reducible refine (Zz.calls k1 _ _ Xe Xk a1 false _ ?side1 ?side2 A5.out).mono ?_); (case side1 => exact zb5); (case side2 => exact zb92); rintro e w' ⟨rfl, ⟨nd, rfl⟩⟩; refine ⟨_, rfl, ?_⟩))
     go_roundg k1
     case measure => have := HK1.out; omega
     case rel => exact ⟨(wrap64 (Xk + 1)), zb6, H', ⟨zb37⟩, ⟨by (with_reducible repeat (first | apply bn | apply bd | apply ba)); exact Ic.out⟩, ⟨zb0⟩⟩
   ·rw [if_neg c4] at H
    have c4b0 : decide (Xk ≤ 3) = false := decide_eq_false c4; clear c4; obtain rfl := Option.some.inj H
    go_wp2
    go_ret
    exact ⟨zb4, zb0⟩
def Jj.f (k : Nat) (Xm : List (S56)) (Xh : List (S56)) (Xe : List (S76)) (Xo : Int) (Xp : Bool) (a1 : Int) : Option (Int) := (Xj.f k Xm Xh Xe Xo Xp).bind fun XnX => (if XnX = true then ((Zc.f a1 0 4).bind fun Xaz => (if Xaz = true then ((YL.f k Xm Xh Xe Xo Xp a1).bind fun TU => (some TU)) else (some 0))) else (some 0))
set_option maxHeartbeats 8000000 in
set_option maxRecDepth 100000 in
theorem Jj.calls (k : Nat) (YI : Option Addr) (YB : Nat) (Xm : List (S56)) (YN : Option Addr) (YJ : Nat) (Xh : List (S56)) (XE : Option Addr) (XF : Nat) (Xe : List (S76)) (Xo : Int) (Xp : Bool) (a1 : Int) (r : Int) (w : World) (hr0_0 : Kd.C k56 w YI Xm.length Xm) (hc0_0 : Xm.length ≤ YB) (hr0_1 : Kd.C k56 w YN Xh.length Xh) (hc0_1 : Xh.length ≤ YJ) (hr0_2 : Kd.C k76 w XE Xe.length Xe) (hc0_2 : Xe.length ≤ XF) (h : Jj.f k Xm Xh Xe Xo Xp a1 = some r) :
 Calls Tryz.prog 9 #[.agg #[.slice YI Xm.length YB, .slice YN Xh.length YJ, .slice XE Xe.length XF, .int .i64 Xo, .bool Xp], .int .i64 a1] w fun e w' => e = .returned (.int .i64 r) ∧ Below w.heap.size w w' := by
 have hu31 := Tryz.underlying31; have U3 := az hr0_0; have Wq := az hc0_0; clear hr0_0 hc0_0; have VC := az hr0_1; have Ws := az hc0_1; clear hr0_1 hc0_1; have VU := az hr0_2; have DY := az hc0_2; clear hr0_2 hc0_2; have HB := az (Below.refl w.heap.size w); have H : ((Xj.f k Xm Xh Xe Xo Xp).bind fun XnX => (if XnX = true then ((Zc.f a1 0 4).bind fun Xaz => (if Xaz = true then ((YL.f k Xm Xh Xe Xo Xp a1).bind fun TU => (some TU)) else (some 0))) else (some 0))) = some r := h; clear h; replace H := Option.bind_eq_some_iff.mp H; obtain ⟨XnX, A30, H⟩ := H; replace H : (if XnX = true then ((Zc.f a1 0 4).bind fun Xaz => (if Xaz = true then ((YL.f k Xm Xh Xe Xo Xp a1).bind fun TU => (some TU)) else (some 0))) else (some 0)) = some r := H; have A3 := az A30; clear A30
 by_cases c4 : XnX = true
 ·subst c4
  have H1 : ((Zc.f a1 0 4).bind fun Xaz => (if Xaz = true then ((YL.f k Xm Xh Xe Xo Xp a1).bind fun TU => (some TU)) else (some 0))) = some r := by rw [if_pos rfl] at H; exact H
  clear H; have H := H1; clear H1; replace H := Option.bind_eq_some_iff.mp H; obtain ⟨Xaz, A50, H⟩ := H; replace H : (if Xaz = true then ((YL.f k Xm Xh Xe Xo Xp a1).bind fun TU => (some TU)) else (some 0)) = some r := H; have A5 := az A50; clear A50
  by_cases c6 : Xaz = true
  ·subst c6
   have H1 : ((YL.f k Xm Xh Xe Xo Xp a1).bind fun TU => (some TU)) = some r := by rw [if_pos rfl] at H; exact H
   clear H; have H := H1; clear H1; replace H := Option.bind_eq_some_iff.mp H; obtain ⟨TU, A70, H⟩ := H; replace H : (some TU) = some r := H; have A7 := az A70; clear A70; obtain rfl := Option.some.inj H
   go_enter Tryz.func9, Tryz.ntmps9
   go_wp2_with (first | ((with_reducible refine Xn (N := 2) rfl ?_); refine Xl ?hg (N := 2) ?hd (cs := #[.slice YI Xm.length YB, .slice YN Xh.length YJ, .slice XE Xe.length XF, .int .i64 Xo, .bool Xp]) (t := 31) ?hr ?_; (case hd => rfl); (case hg => rfl); (case hr => exact zb10); intro Xfj hg w8 hbox hb; have DL := az (hbox); have Xfk := az ((zb129 : w.heap.size ≤ Xfj)); have Xwm := Xfk; replace HB := az (Xc zb1 hb); clear hb hbox hg; obtain ⟨WY, WZ, Pb, LC, LD⟩ := cz5 DL; obtain ⟨Pd, Pe, Pf, LF⟩ := fz4 DL; have LG := Xd DL.out 4) | ((with_reducible refine Xi (f := 26) rfl ?_); refine XI (some 6) rfl rfl Tryz.func26 zb9 rfl #[.agg #[.slice YI Xm.length YB, .slice YN Xh.length YJ, .slice XE Xe.length XF, .int .i64 Xo, .bool Xp]] rfl zb2 ?_; (with_reducible refine (Xj.calls k _ _ Xm _ _ Xh _ _ Xe Xo Xp true _ ?side1 ?side2 ?side3 ?side4 ?side5 ?side6 A3.out).mono ?_); (case side1 => exact zb7); (case side2 => exact zb115); (case side3 => exact zb8); (case side4 => exact zb123); (case side5 => exact zb5); (case side6 => exact zb92); rintro e w10 ⟨rfl, hb⟩; refine ⟨_, rfl, ?_⟩; replace DL := bb DL (fun h => by (with_reducible repeat (first | apply bn | apply bd | apply ba)); exact h) hb; replace HB := az (Xc zb0 hb); (try clear hb); (try clear hb2); (try clear hk); (try clear hi)) | (go_at_call 30; (with_reducible refine (Zc.calls a1 0 4 true _ A5.out).mono ?_); rintro e w' ⟨rfl, ⟨nd, rfl⟩⟩; obtain ⟨EP, ER, ES, Xj8, Xj9⟩ := cz5 DL; obtain ⟨ET, EU, EW, XjA⟩ := fz4 DL; have XjB := Xd DL.out 4) | ((with_reducible refine Xi (f := 31) rfl ?_); refine XI (some 15) rfl rfl Tryz.func31 zb9 rfl #[.agg #[.slice YI Xm.length YB, .slice YN Xh.length YJ, .slice XE Xe.length XF, .int .i64 Xo, .bool Xp], .int .i64 a1] rfl zb2 ?_; (with_reducible refine (YL.calls k _ _ Xm _ _ Xh _ _ Xe Xo Xp a1 TU _ ?side1 ?side2 ?side3 ?side4 ?side5 ?side6 A7.out).mono ?_); (case side1 => repeat (first | exact (Kd.Xr U3.out zb0) | (with_reducible refine Kd.YC ?_ _) | (with_reducible refine Kd.YE ?_ _) | (with_reducible refine Kd.Zi ?_))); (case side2 => exact zb115); (case side3 => repeat (first | exact (Kd.Xr VC.out zb0) | (with_reducible refine Kd.YC ?_ _) | (with_reducible refine Kd.YE ?_ _) | (with_reducible refine Kd.Zi ?_))); (case side4 => exact zb123); (case side5 => exact zb143); (case side6 => exact zb92); rintro e w12 ⟨rfl, hb⟩; refine ⟨_, rfl, ?_⟩; replace DL := bb DL (fun h => by (with_reducible repeat (first | apply bn | apply bd | apply ba)); exact h) hb; replace HB := az (Xc zb0 hb); (try clear hb); (try clear hb2); (try clear hk); (try clear hi)))
   go_ret
   exact ⟨zb4, zb0⟩
  ·replace c6 := Bool.eq_false_iff.mpr c6
   subst c6
   have H1 : (some 0) = some r := by rw [if_neg (show ¬ (false = true) by decide)] at H; exact H
   clear H; have H := H1; clear H1; obtain rfl := Option.some.inj H
   go_enter Tryz.func9, Tryz.ntmps9
   go_wp2_with (first | ((with_reducible refine Xn (N := 2) rfl ?_); refine Xl ?hg (N := 2) ?hd (cs := #[.slice YI Xm.length YB, .slice YN Xh.length YJ, .slice XE Xe.length XF, .int .i64 Xo, .bool Xp]) (t := 31) ?hr ?_; (case hd => rfl); (case hg => rfl); (case hr => exact zb10); intro Xfj hg w13 hbox hb; have DL := az (hbox); have Xfk := az ((zb129 : w.heap.size ≤ Xfj)); have Xwm := Xfk; replace HB := az (Xc zb1 hb); clear hb hbox hg; obtain ⟨FP, FQ, FR, U6, U7⟩ := cz5 DL; obtain ⟨FT, FU, FV, U8⟩ := fz4 DL; have U9 := Xd DL.out 4) | ((with_reducible refine Xi (f := 26) rfl ?_); refine XI (some 6) rfl rfl Tryz.func26 zb9 rfl #[.agg #[.slice YI Xm.length YB, .slice YN Xh.length YJ, .slice XE Xe.length XF, .int .i64 Xo, .bool Xp]] rfl zb2 ?_; (with_reducible refine (Xj.calls k _ _ Xm _ _ Xh _ _ Xe Xo Xp true _ ?side1 ?side2 ?side3 ?side4 ?side5 ?side6 A3.out).mono ?_); (case side1 => exact zb7); (case side2 => exact zb115); (case side3 => exact zb8); (case side4 => exact zb123); (case side5 => exact zb5); (case side6 => exact zb92); rintro e w15 ⟨rfl, hb⟩; refine ⟨_, rfl, ?_⟩; replace DL := bb DL (fun h => by (with_reducible repeat (first | apply bn | apply bd | apply ba)); exact h) hb; replace HB := az (Xc zb0 hb); (try clear hb); (try clear hb2); (try clear hk); (try clear hi)) | (go_at_call 30; (with_reducible refine (Zc.calls a1 0 4 false _ A5.out).mono ?_); rintro e w' ⟨rfl, ⟨nd, rfl⟩⟩))
   go_ret
   exact ⟨zb4, zb0⟩
 ·replace c4 := Bool.eq_false_iff.mpr c4
  subst c4
  have H1 : (some 0) = some r := by rw [if_neg (show ¬ (false = true) by decide)] at H; exact H
  clear H; have H := H1; clear H1; obtain rfl := Option.some.inj H
  go_enter Tryz.func9, Tryz.ntmps9
  go_wp2_with (first | ((with_reducible refine Xn (N := 2) rfl ?_); refine Xl ?hg (N := 2) ?hd (cs := #[.slice YI Xm.length YB, .slice YN Xh.length YJ, .slice XE Xe.length XF, .int .i64 Xo, .bool Xp]) (t := 31) ?hr ?_; (case hd => rfl); (case hg => rfl); (case hr => exact zb10); intro Xfj hg w16 hbox hb; have DL := az (hbox); have Xfk := az ((zb129 : w.heap.size ≤ Xfj)); have Xwm := Xfk; replace HB := az (Xc zb1 hb); clear hb hbox hg; obtain ⟨Kg, Kh, Ki, TF, TG⟩ := cz5 DL; obtain ⟨Kj, Kk, Kl, TH⟩ := fz4 DL; have TI := Xd DL.out 4) | ((with_reducible refine Xi (f := 26) rfl ?_); refine XI (some 6) rfl rfl Tryz.func26 zb9 rfl #[.agg #[.slice YI Xm.length YB, .slice YN Xh.length YJ, .slice XE Xe.length XF, .int .i64 Xo, .bool Xp]] rfl zb2 ?_; (with_reducible refine (Xj.calls k _ _ Xm _ _ Xh _ _ Xe Xo Xp false _ ?side1 ?side2 ?side3 ?side4 ?side5 ?side6 A3.out).mono ?_); (case side1 => exact zb7); (case side2 => exact zb115); (case side3 => exact zb8); (case side4 => exact zb123); (case side5 => exact zb5); (case side6 => exact zb92); rintro e w18 ⟨rfl, hb⟩; refine ⟨_, rfl, ?_⟩; replace DL := bb DL (fun h => by (with_reducible repeat (first | apply bn | apply bd | apply ba)); exact h) hb; replace HB := az (Xc zb0 hb); (try clear hb); (try clear hb2); (try clear hk); (try clear hi)))
  go_ret
  exact ⟨zb4, zb0⟩
end Go.Proofs.YtphnphmbfogmlaaGreat.Pr
