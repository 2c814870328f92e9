import Derived.Test.YtphnphmbfogmlaaGreatQEByq
import Derived.Test.YtphnphmbfogmlaaGreatQEPrK
import Derived.Test.YtphnphmbfogmlaaGreatQESx
import Derived.Test.YtphnphmbfogmlaaGreatQEPrM
import Derived.Test.YtphnphmbfogmlaaGreatQELckW
import Derived.Test.YtphnphmbfogmlaaGreatQESizE
import Derived.Test.YtphnphmbfogmlaaGreatQEPrEL
namespace Go.Proofs.YtphnphmbfogmlaaGreat.Pr
set_option linter.unusedVariables false
open Go.RowKit Go.PW Go.PL Go.PM Go.Proofs.YtphnphmbfogmlaaGreat.T
def Vb.f (k : Nat) (l0 : List (S76)) (a1 : Int) : Option (Int × Bool) := if Za l0 = true then some (JN l0 a1 (Jm l0 3 1) 0 true) else none
theorem Vb.calls (k : Nat) (A0 : Option Addr) (c0 : Nat) (l0 : List (S76)) (a1 : Int) (r1 : Int) (r2 : Bool) (w : World) (hr0 : Kd.C k76 w A0 l0.length l0) (hc0 : l0.length ≤ c0) (h : Vb.f k l0 a1 = some (r1, r2)) :
 Calls Tryz.prog 35 #[.slice A0 l0.length c0, .int .i64 a1] w fun e w' => e = .returned (.tuple #[.int .i64 r1, .bool r2]) ∧ Below w.heap.size w w' := by
 unfold Vb.f at h
 by_cases hg : Za l0 = true
 ·rw [if_pos hg] at h
  have e := Option.some.inj h; have h1 := Et A0 c0 l0 a1 w hg hr0 hc0; rw [e] at h1; exact h1
 ·rw [if_neg hg] at h
  exact absurd h (by simp)
end Go.Proofs.YtphnphmbfogmlaaGreat.Pr
namespace Go.Proofs.YtphnphmbfogmlaaGreat.Pr
open Go.RowKit Go.PW Go.PL Go.PM
attribute [local go_sem] YO YP Zm Zn Yv Yw YQ YS
set_option linter.unusedVariables false
set_option linter.unusedSimpArgs false
def Vo.f (a0 : Int) : Option (Bool) := (Fj.f a0 0 4).bind fun DT => (some DT)
set_option maxHeartbeats 8000000 in
set_option maxRecDepth 100000 in
theorem Vo.calls (a0 : Int) (r : Bool) (w : World) (h : Vo.f a0 = some r) :
 Calls Tryz.prog 34 #[.int .i64 a0] w fun e w' => e = .returned (.bool r) ∧ Jc w w' := by
 have H : ((Fj.f a0 0 4).bind fun DT => (some DT)) = some r := h; clear h; replace H := Option.bind_eq_some_iff.mp H; obtain ⟨DT, A20, H⟩ := H; replace H : (some DT) = some r := H; have A2 := az A20; clear A20; obtain rfl := Option.some.inj H
 go_enter Tryz.func34, Tryz.ntmps34
 go_wp2_with (first | ((with_reducible refine Xi (f := 37) rfl ?_); refine XI (some 4) rfl rfl Tryz.func37 zb9 rfl #[.int .i64 a0, .int .i64 0, .int .i64 4] rfl zb2 ?_; (with_reducible refine (Fj.calls a0 0 4 DT _ A2.out).mono ?_); rintro e w' ⟨rfl, ⟨nd, rfl⟩⟩; refine ⟨_, rfl, ?_⟩))
 go_ret
 exact ⟨zb6, zb11⟩
def ZI.f (k : Nat) (Xm : List (S56)) (Xh : List (S56)) (Xe : List (S76)) (Xo : Int) (Xp : Bool) (a1 : Int) : Option (Int) := (Xx.f k Xm Xh Xe Xo Xp).bind fun Dp => (if Dp = true then ((Vo.f a1).bind fun Xa0 => (if Xa0 = true then ((Vb.f k Xe a1).bind fun Ph => (some Ph.1)) else (some 0))) else (some 0))
set_option maxHeartbeats 8000000 in
set_option maxRecDepth 100000 in
theorem ZI.calls (k : Nat) (YI : Option Addr) (YB : Nat) (Xm : List (S56)) (YN : Option Addr) (YJ : Nat) (Xh : List (S56)) (XE : Option Addr) (XF : Nat) (Xe : List (S76)) (Xo : Int) (Xp : Bool) (a1 : Int) (r : Int) (w : World) (hr0_0 : Kd.C k56 w YI Xm.length Xm) (hc0_0 : Xm.length ≤ YB) (hr0_1 : Kd.C k56 w YN Xh.length Xh) (hc0_1 : Xh.length ≤ YJ) (hr0_2 : Kd.C k76 w XE Xe.length Xe) (hc0_2 : Xe.length ≤ XF) (h : ZI.f k Xm Xh Xe Xo Xp a1 = some r) :
 Calls Tryz.prog 11 #[.agg #[.slice YI Xm.length YB, .slice YN Xh.length YJ, .slice XE Xe.length XF, .int .i64 Xo, .bool Xp], .int .i64 a1] w fun e w' => e = .returned (.int .i64 r) ∧ Below w.heap.size w w' := by
 have hu31 := Tryz.underlying31; have U3 := az hr0_0; have Wq := az hc0_0; clear hr0_0 hc0_0; have VC := az hr0_1; have Ws := az hc0_1; clear hr0_1 hc0_1; have VU := az hr0_2; have DY := az hc0_2; clear hr0_2 hc0_2; have HB := az (Below.refl w.heap.size w); have H : ((Xx.f k Xm Xh Xe Xo Xp).bind fun Dp => (if Dp = true then ((Vo.f a1).bind fun Xa0 => (if Xa0 = true then ((Vb.f k Xe a1).bind fun Ph => (some Ph.1)) else (some 0))) else (some 0))) = some r := h; clear h; replace H := Option.bind_eq_some_iff.mp H; obtain ⟨Dp, A30, H⟩ := H; replace H : (if Dp = true then ((Vo.f a1).bind fun Xa0 => (if Xa0 = true then ((Vb.f k Xe a1).bind fun Ph => (some Ph.1)) else (some 0))) else (some 0)) = some r := H; have A3 := az A30; clear A30
 by_cases c4 : Dp = true
 ·subst c4
  have H1 : ((Vo.f a1).bind fun Xa0 => (if Xa0 = true then ((Vb.f k Xe a1).bind fun Ph => (some Ph.1)) else (some 0))) = some r := by rw [if_pos rfl] at H; exact H
  clear H; have H := H1; clear H1; replace H := Option.bind_eq_some_iff.mp H; obtain ⟨Xa0, A50, H⟩ := H; replace H : (if Xa0 = true then ((Vb.f k Xe a1).bind fun Ph => (some Ph.1)) else (some 0)) = some r := H; have A5 := az A50; clear A50
  by_cases c6 : Xa0 = true
  ·subst c6
   have H1 : ((Vb.f k Xe a1).bind fun Ph => (some Ph.1)) = some r := by rw [if_pos rfl] at H; exact H
   clear H; have H := H1; clear H1; replace H := Option.bind_eq_some_iff.mp H; obtain ⟨⟨t505, t506⟩, A70, H⟩ := H; replace H : (some t505) = some r := H; have A7 := az A70; clear A70; obtain rfl := Option.some.inj H
   go_enter Tryz.func11, Tryz.ntmps11
   go_wp2_with (first | ((with_reducible refine Xn (N := 2) rfl ?_); refine Xl ?hg (N := 2) ?hd (cs := #[.slice YI Xm.length YB, .slice YN Xh.length YJ, .slice XE Xe.length XF, .int .i64 Xo, .bool Xp]) (t := 31) ?hr ?_; (case hd => rfl); (case hg => rfl); (case hr => exact zb10); intro Xfl hg w8 hbox hb; have DN := az (hbox); have Xfm := az ((zb129 : w.heap.size ≤ Xfl)); have Xwn := Xfm; replace HB := az (Xc zb1 hb); clear hb hbox hg; obtain ⟨WY, WZ, Pb, LC, LD⟩ := cz5 DN; obtain ⟨Pd, Pe, Pf, LF⟩ := fz4 DN; have LG := Xd DN.out 4) | ((with_reducible refine Xi (f := 27) rfl ?_); refine XI (some 8) rfl rfl Tryz.func27 zb9 rfl #[.agg #[.slice YI Xm.length YB, .slice YN Xh.length YJ, .slice XE Xe.length XF, .int .i64 Xo, .bool Xp]] rfl zb2 ?_; (with_reducible refine (Xx.calls k _ _ Xm _ _ Xh _ _ Xe Xo Xp true _ ?side1 ?side2 ?side3 ?side4 ?side5 ?side6 A3.out).mono ?_); (case side1 => exact zb7); (case side2 => exact zb115); (case side3 => exact zb8); (case side4 => exact zb123); (case side5 => exact zb5); (case side6 => exact zb92); rintro e w10 ⟨rfl, hb⟩; refine ⟨_, rfl, ?_⟩; replace DN := bb DN (fun h => by (with_reducible repeat (first | apply bn | apply bd | apply ba)); exact h) hb; replace HB := az (Xc zb0 hb); (try clear hb); (try clear hb2); (try clear hk); (try clear hi)) | (go_at_call 34; (with_reducible refine (Vo.calls a1 true _ A5.out).mono ?_); rintro e w' ⟨rfl, ⟨nd, rfl⟩⟩; obtain ⟨EP, ER, ES, Xj8, Xj9⟩ := cz5 DN; obtain ⟨ET, EU, EW, XjA⟩ := fz4 DN; have XjB := Xd DN.out 4) | ((with_reducible refine Xi (f := 35) rfl ?_); refine XI (some 19) rfl rfl Tryz.func35 zb9 rfl #[.slice XE Xe.length XF, .int .i64 a1] rfl zb2 ?_; (with_reducible refine (Vb.calls k _ _ Xe a1 t505 t506 _ ?side1 ?side2 A7.out).mono ?_); (case side1 => exact zb143); (case side2 => exact zb92); rintro e w12 ⟨rfl, hb⟩; refine ⟨_, rfl, ?_⟩; replace DN := bb DN (fun h => by (with_reducible repeat (first | apply bn | apply bd | apply ba)); exact h) hb; replace HB := az (Xc zb0 hb); (try clear hb); (try clear hb2); (try clear hk); (try clear hi)))
   go_ret
   exact ⟨zb4, zb0⟩
  ·replace c6 := Bool.eq_false_iff.mpr c6
   subst c6
   have H1 : (some 0) = some r := by rw [if_neg (show ¬ (false = true) by decide)] at H; exact H
   clear H; have H := H1; clear H1; obtain rfl := Option.some.inj H
   go_enter Tryz.func11, Tryz.ntmps11
   go_wp2_with (first | ((with_reducible refine Xn (N := 2) rfl ?_); refine Xl ?hg (N := 2) ?hd (cs := #[.slice YI Xm.length YB, .slice YN Xh.length YJ, .slice XE Xe.length XF, .int .i64 Xo, .bool Xp]) (t := 31) ?hr ?_; (case hd => rfl); (case hg => rfl); (case hr => exact zb10); intro Xfl hg w13 hbox hb; have DN := az (hbox); have Xfm := az ((zb129 : w.heap.size ≤ Xfl)); have Xwn := Xfm; replace HB := az (Xc zb1 hb); clear hb hbox hg; obtain ⟨FP, FQ, FR, U6, U7⟩ := cz5 DN; obtain ⟨FT, FU, FV, U8⟩ := fz4 DN; have U9 := Xd DN.out 4) | ((with_reducible refine Xi (f := 27) rfl ?_); refine XI (some 8) rfl rfl Tryz.func27 zb9 rfl #[.agg #[.slice YI Xm.length YB, .slice YN Xh.length YJ, .slice XE Xe.length XF, .int .i64 Xo, .bool Xp]] rfl zb2 ?_; (with_reducible refine (Xx.calls k _ _ Xm _ _ Xh _ _ Xe Xo Xp true _ ?side1 ?side2 ?side3 ?side4 ?side5 ?side6 A3.out).mono ?_); (case side1 => exact zb7); (case side2 => exact zb115); (case side3 => exact zb8); (case side4 => exact zb123); (case side5 => exact zb5); (case side6 => exact zb92); rintro e w15 ⟨rfl, hb⟩; refine ⟨_, rfl, ?_⟩; replace DN := bb DN (fun h => by (with_reducible repeat (first | apply bn | apply bd | apply ba)); exact h) hb; replace HB := az (Xc zb0 hb); (try clear hb); (try clear hb2); (try clear hk); (try clear hi)) | (go_at_call 34; (with_reducible refine (Vo.calls a1 false _ A5.out).mono ?_); rintro e w' ⟨rfl, ⟨nd, rfl⟩⟩))
   go_ret
   exact ⟨zb4, zb0⟩
 ·replace c4 := Bool.eq_false_iff.mpr c4
  subst c4
  have H1 : (some 0) = some r := by rw [if_neg (show ¬ (false = true) by decide)] at H; exact H
  clear H; have H := H1; clear H1; obtain rfl := Option.some.inj H
  go_enter Tryz.func11, Tryz.ntmps11
  go_wp2_with (first | ((with_reducible refine Xn (N := 2) rfl ?_); refine Xl ?hg (N := 2) ?hd (cs := #[.slice YI Xm.length YB, .slice YN Xh.length YJ, .slice XE Xe.length XF, .int .i64 Xo, .bool Xp]) (t := 31) ?hr ?_; (case hd => rfl); (case hg => rfl); (case hr => exact zb10); intro Xfl hg w16 hbox hb; have DN := az (hbox); have Xfm := az ((zb129 : w.heap.size ≤ Xfl)); have Xwn := Xfm; replace HB := az (Xc zb1 hb); clear hb hbox hg; obtain ⟨Kg, Kh, Ki, TF, TG⟩ := cz5 DN; obtain ⟨Kj, Kk, Kl, TH⟩ := fz4 DN; have TI := Xd DN.out 4) | ((with_reducible refine Xi (f := 27) rfl ?_); refine XI (some 8) rfl rfl Tryz.func27 zb9 rfl #[.agg #[.slice YI Xm.length YB, .slice YN Xh.length YJ, .slice XE Xe.length XF, .int .i64 Xo, .bool Xp]] rfl zb2 ?_; (with_reducible refine (Xx.calls k _ _ Xm _ _ Xh _ _ Xe Xo Xp false _ ?side1 ?side2 ?side3 ?side4 ?side5 ?side6 A3.out).mono ?_); (case side1 => exact zb7); (case side2 => exact zb115); (case side3 => exact zb8); (case side4 => exact zb123); (case side5 => exact zb5); (case side6 => exact zb92); rintro e w18 ⟨rfl, hb⟩; refine ⟨_, rfl, ?_⟩; replace DN := bb DN (fun h => by (with_reducible repeat (first | apply bn | apply bd | apply ba)); exact h) hb; replace HB := az (Xc zb0 hb); (try clear hb); (try clear hb2); (try clear hk); (try clear hi)))
  go_ret
  exact ⟨zb4, zb0⟩
end Go.Proofs.YtphnphmbfogmlaaGreat.Pr
