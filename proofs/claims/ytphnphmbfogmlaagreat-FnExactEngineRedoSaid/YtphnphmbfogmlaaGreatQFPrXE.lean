import Derived.Test.YtphnphmbfogmlaaGreatQFByq
import Derived.Test.YtphnphmbfogmlaaGreatQFPrK
import Derived.Test.YtphnphmbfogmlaaGreatQFSx
import Derived.Test.YtphnphmbfogmlaaGreatQFPrWith
import Derived.Test.YtphnphmbfogmlaaGreatQFPrLogA
import Derived.Test.YtphnphmbfogmlaaGreatQFPrXH
namespace Go.Proofs.YtphnphmbfogmlaaGreat.Pr
open Go.RowKit Go.PW Go.PL Go.PM
attribute [local go_sem] Y3 Y4 YN YO Ya Yb Y5 Y6
set_option linter.unusedVariables false
set_option linter.unusedSimpArgs false
abbrev Xnm : Array Bool := #[nn,nn,nn,nn,nn,nn,nn,nn,nn,nn]
abbrev Xnn : Array Bool := #[yy,nn,nn,nn,nn,nn,nn,nn,nn,nn]
abbrev Xno : Array Bool := #[yy,yy,nn,nn,nn,nn,nn,nn,nn,nn]
abbrev Xnp : Array Bool := #[yy,yy,yy,nn,nn,nn,nn,nn,nn,nn]
abbrev Xnq : Array Bool := #[yy,yy,yy,nn,yy,nn,nn,nn,nn,nn]
abbrev Xnr : Array Bool := #[yy,yy,yy,nn,yy,yy,nn,nn,nn,nn]
abbrev Xns : Array Bool := #[yy,yy,yy,nn,yy,yy,yy,nn,nn,nn]
abbrev Xnt : Array Bool := #[yy,yy,yy,yy,yy,yy,yy,nn,nn,nn]
abbrev Xnu : Array Bool := #[yy,yy,yy,yy,yy,yy,yy,yy,nn,nn]
abbrev Xnv : Array Bool := #[yy,yy,yy,yy,yy,yy,yy,yy,yy,nn]
abbrev XjX : Array Bool := #[yy,yy,yy,yy,yy,yy,yy,yy,yy,yy]
def Yq.l0 : Nat → List (S73) → Int → Int → Option (Int)
 | 0, _, _, _ => none
 | k + 1, x0, x1, x5 => if x5 < (x0.length : Int) then (if 0 ≤ x5 then ((Dx.f ((Zh x0 x5).f0) ((Zh x0 x5).f1) ((Zh x0 x5).f2) x1).bind fun Bj => (if Bj < 0 then (some (-1)) else (Yq.l0 k x0 Bj (wrap64 (x5 + 1))))) else (none)) else (some x1)
def Yq.f (k : Nat) (l0 : List (S73)) (a1 : Int) : Option (Int) := if (wrap64 (a1 - (l0.length : Int))) < 0 then (some (-1)) else (Yq.l0 k l0 (wrap64 (a1 - (l0.length : Int))) 0)
set_option maxHeartbeats 8000000 in
set_option maxRecDepth 100000 in
theorem Yq.calls (k : Nat) (A0 : Option Addr) (c0 : Nat) (l0 : List (S73)) (a1 : Int) (r : Int) (w : World) (hr0 : Kd.C k73 w A0 l0.length l0) (hc0 : l0.length ≤ c0) (h : Yq.f k l0 a1 = some r) :
 Calls Tryz.prog 28 #[.slice A0 l0.length c0, .int .i64 a1] w fun e w' => e = .returned (.int .i64 r) ∧ Below w.heap.size w w' := by
 have hu73 := Tryz.underlying73; have HR0 := az hr0; have HC0 := az hc0; clear hr0 hc0; have HB := az (Below.refl w.heap.size w); have H : (if (wrap64 (a1 - (l0.length : Int))) < 0 then (some (-1)) else (Yq.l0 k l0 (wrap64 (a1 - (l0.length : Int))) 0)) = some r := h; clear h
 by_cases c3 : (wrap64 (a1 - (l0.length : Int))) < 0
 ·rw [if_pos c3] at H
  have c3b0 : decide ((wrap64 (a1 - (l0.length : Int))) < 0) = true := decide_eq_true c3; clear c3; obtain rfl := Option.some.inj H
  go_enter Tryz.func28, Tryz.ntmps28
  go_wp2
  go_ret
  exact ⟨zb4, zb0⟩
 ·rw [if_neg c3] at H
  have c3b0 : decide ((wrap64 (a1 - (l0.length : Int))) < 0) = false := decide_eq_false c3; clear c3; have H' := az H; clear H
  go_enter Tryz.func28, Tryz.ntmps28
  go_wp2
  go_loopg [1, 5] k (fun kq v1 v5 w' => ∃ (ZB : Int) (Xh : Int), v1 = .int .i64 ZB ∧ v5 = .int .i64 Xh ∧ Aside0 (Yq.l0 kq l0 ZB Xh = some r) ∧ Aside0 (kq ≤ k) ∧ Aside0 (Below w.heap.size w w'))
  case atStart => exact ⟨(wrap64 (a1 - (l0.length : Int))), (0), zb5, zb5, H', ⟨Nat.le_refl _⟩, ⟨zb0⟩⟩
  case round =>
   clear H';(try clear c2);(try clear p2);(try clear c3);(try clear c3b0)
   obtain ⟨ZB, Xh, rfl, rfl, HA, HK1, HB⟩ := hrel
   cases gk with
   | zero => exact absurd HA.out (by simp [Yq.l0])
   | succ k1 =>
    have H := HA.out; clear HA; simp only [Yq.l0] at H
    by_cases c4 : Xh < (l0.length : Int)
    ·rw [if_pos c4] at H
     have c4b0 : decide (Xh < (l0.length : Int)) = true := decide_eq_true c4; clear c4
     by_cases c5 : 0 ≤ Xh
     ·rw [if_pos c5] at H
      have c5b0 : decide (0 ≤ Xh) = true := decide_eq_true c5; clear c5; replace H := Option.bind_eq_some_iff.mp H; obtain ⟨Bj, A60, H⟩ := H; replace H : (if Bj < 0 then (some (-1)) else (Yq.l0 k1 l0 Bj (wrap64 (Xh + 1)))) = some r := H; have A6 := az A60; clear A60
      by_cases c7 : Bj < 0
      ·rw [if_pos c7] at H
       have c7b0 : decide (Bj < 0) = true := decide_eq_true c7; clear c7; obtain rfl := Option.some.inj H; have XeX : 0 ≤ (Xh : Int) := of_decide_eq_true zb3; have XeY : Xh < (l0.length : Int) := of_decide_eq_true zb3; obtain ⟨XvU, XeZ, Xfa, XtF, Pw, Px, Py, hl103_2, hi103_2⟩ := XbF HR0.out Xh XeX XeY
       cases XtF
       replace Pw := cb HB Pw; replace Px := cb HB Px; replace Py := cb HB Py; have XfZ := az hi103_2; have Xbu := az hl103_2; clear hi103_2 hl103_2; replace XeX := eq_true XeX; replace XeY := eq_true XeY
       go_wp2_with (first | ((with_reducible refine Xo (f := 56) rfl ?_); refine Yx (some 23) rfl rfl Tryz.func56 zb6 rfl #[.agg #[.int .i64 ((Zh l0 Xh).f0), .int .i64 ((Zh l0 Xh).f1), .slice XeZ ((Zh l0 Xh).f2).length Xfa], .int .i64 ZB] rfl zb2 ?_; (with_reducible refine (Dx.calls ((Zh l0 Xh).f0) ((Zh l0 Xh).f1) _ _ ((Zh l0 Xh).f2) ZB Bj _ ?side1 ?side2 A6.out).mono ?_); (case side1 => exact zb77); (case side2 => exact Xbu.out); rintro e w8 ⟨rfl, hb⟩; refine ⟨_, rfl, ?_⟩; replace HB := az (Xc zb0 hb); (try clear hb); (try clear hb2); (try clear hk); (try clear hi)))
       go_ret
       exact ⟨zb4, zb0⟩
      ·rw [if_neg c7] at H
       have c7b0 : decide (Bj < 0) = false := decide_eq_false c7; clear c7; have H' := az H; clear H; have XeX : 0 ≤ (Xh : Int) := of_decide_eq_true zb3; have XeY : Xh < (l0.length : Int) := of_decide_eq_true zb3; obtain ⟨XvU, XeZ, Xfa, XtF, Pw, Px, Py, hl103_2, hi103_2⟩ := XbF HR0.out Xh XeX XeY
       cases XtF
       replace Pw := cb HB Pw; replace Px := cb HB Px; replace Py := cb HB Py; have XfZ := az hi103_2; have Xbu := az hl103_2; clear hi103_2 hl103_2; replace XeX := eq_true XeX; replace XeY := eq_true XeY
       go_wp2_with (first | ((with_reducible refine Xo (f := 56) rfl ?_); refine Yx (some 23) rfl rfl Tryz.func56 zb6 rfl #[.agg #[.int .i64 ((Zh l0 Xh).f0), .int .i64 ((Zh l0 Xh).f1), .slice XeZ ((Zh l0 Xh).f2).length Xfa], .int .i64 ZB] rfl zb2 ?_; (with_reducible refine (Dx.calls ((Zh l0 Xh).f0) ((Zh l0 Xh).f1) _ _ ((Zh l0 Xh).f2) ZB Bj _ ?side1 ?side2 A6.out).mono ?_); (case side1 => exact zb77); (case side2 => exact Xbu.out); rintro e w9 ⟨rfl, hb⟩; refine ⟨_, rfl, ?_⟩; replace HB := az (Xc zb0 hb); (try clear hb); (try clear hb2); (try clear hk); (try clear hi)))
       go_roundg k1
       case measure => have := HK1.out; omega
       case rel => exact ⟨(Bj), (wrap64 (Xh + 1)), zb5, zb5, H', ⟨zb33⟩, ⟨zb0⟩⟩
     ·rw [if_neg c5] at H
      exact absurd H (by simp)
    ·rw [if_neg c4] at H
     have c4b0 : decide (Xh < (l0.length : Int)) = false := decide_eq_false c4; clear c4; obtain rfl := Option.some.inj H
     go_wp2
     go_ret
     exact ⟨zb4, zb0⟩
def ZG.f (k : Nat) (Yc : List (S73)) (XM : List (S73)) (Xm : List (S78)) (Yu : Int) (Yt : Bool) (a1 : Int) : Option (Int) := (Yq.f k Yc a1).bind fun UU => (if UU < 0 then (some (-1)) else ((Yq.f k XM UU).bind fun UW => (if UW < 0 then (some (-1)) else ((JE.f Xm UW).bind fun M8 => (if M8 < 0 then (some (-1)) else (some M8))))))
set_option maxHeartbeats 8000000 in
set_option maxRecDepth 100000 in
theorem ZG.calls (k : Nat) (Je : Option Addr) (Ja : Nat) (Yc : List (S73)) (J9 : Option Addr) (Jy : Nat) (XM : List (S73)) (Yg : Option Addr) (Yh : Nat) (Xm : List (S78)) (Yu : Int) (Yt : Bool) (a1 : Int) (r : Int) (w : World) (hr0_0 : Kd.C k73 w Je Yc.length Yc) (hc0_0 : Yc.length ≤ Ja) (hr0_1 : Kd.C k73 w J9 XM.length XM) (hc0_1 : XM.length ≤ Jy) (hr0_2 : Kd.C k78 w Yg Xm.length Xm) (hc0_2 : Xm.length ≤ Yh) (h : ZG.f k Yc XM Xm Yu Yt a1 = some r) :
 Calls Tryz.prog 8 #[.agg #[.slice Je Yc.length Ja, .slice J9 XM.length Jy, .slice Yg Xm.length Yh, .int .i64 Yu, .bool Yt], .int .i64 a1] w fun e w' => e = .returned (.int .i64 r) ∧ Below w.heap.size w w' := by
 have hu25 := Tryz.underlying25; have OG := az hr0_0; have ML := az hc0_0; clear hr0_0 hc0_0; have Pf := az hr0_1; have SH := az hc0_1; clear hr0_1 hc0_1; have U6 := az hr0_2; have JI := az hc0_2; clear hr0_2 hc0_2; have HB := az (Below.refl w.heap.size w); have H : ((Yq.f k Yc a1).bind fun UU => (if UU < 0 then (some (-1)) else ((Yq.f k XM UU).bind fun UW => (if UW < 0 then (some (-1)) else ((JE.f Xm UW).bind fun M8 => (if M8 < 0 then (some (-1)) else (some M8))))))) = some r := h; clear h; replace H := Option.bind_eq_some_iff.mp H; obtain ⟨UU, A30, H⟩ := H; replace H : (if UU < 0 then (some (-1)) else ((Yq.f k XM UU).bind fun UW => (if UW < 0 then (some (-1)) else ((JE.f Xm UW).bind fun M8 => (if M8 < 0 then (some (-1)) else (some M8)))))) = some r := H; have A3 := az A30; clear A30
 by_cases c4 : UU < 0
 ·rw [if_pos c4] at H
  have c4b0 : decide (UU < 0) = true := decide_eq_true c4; clear c4; obtain rfl := Option.some.inj H
  go_enter Tryz.func8, Tryz.ntmps8
  go_wp2_with (first | ((with_reducible refine Xp (N := 2) rfl ?_); refine Xn ?hg (N := 2) ?hd (cs := #[.slice Je Yc.length Ja, .slice J9 XM.length Jy, .slice Yg Xm.length Yh, .int .i64 Yu, .bool Yt]) (t := 25) ?hr ?_; (case hd => rfl); (case hg => rfl); (case hr => exact zb7); intro Bl hg w5 hbox hb; have ZN := az (hbox); have Bn := az ((zb95 : w.heap.size ≤ Bl)); have Xmr := Bn; replace HB := az (Xc zb0 hb); clear hb hbox hg; obtain ⟨RZ, Ca, Cb, XlC, XlD⟩ := cz5 ZN; obtain ⟨Cc, Ce, Cf, XlE⟩ := fz4 ZN; have XlF := Xe ZN.out 4) | ((with_reducible refine Xo (f := 28) rfl ?_); refine Yx (some 8) rfl rfl Tryz.func28 zb6 rfl #[.slice Je Yc.length Ja, .int .i64 a1] rfl zb2 ?_; (with_reducible refine (Yq.calls k _ _ Yc a1 UU _ ?side1 ?side2 A3.out).mono ?_); (case side1 => exact zb14); (case side2 => exact ML.out); rintro e w7 ⟨rfl, hb⟩; refine ⟨_, rfl, ?_⟩; replace ZN := bb ZN (fun h => by (with_reducible repeat (first | apply bn | apply bd | apply ba)); exact h) hb; replace HB := az (Xc zb1 hb); (try clear hb); (try clear hb2); (try clear hk); (try clear hi)))
  go_ret
  exact ⟨zb4, zb1⟩
 ·rw [if_neg c4] at H
  have c4b0 : decide (UU < 0) = false := decide_eq_false c4; clear c4; replace H := Option.bind_eq_some_iff.mp H; obtain ⟨UW, A80, H⟩ := H; replace H : (if UW < 0 then (some (-1)) else ((JE.f Xm UW).bind fun M8 => (if M8 < 0 then (some (-1)) else (some M8)))) = some r := H; have A8 := az A80; clear A80
  by_cases c9 : UW < 0
  ·rw [if_pos c9] at H
   have c9b0 : decide (UW < 0) = true := decide_eq_true c9; clear c9; obtain rfl := Option.some.inj H
   go_enter Tryz.func8, Tryz.ntmps8
   go_wp2_with (first | ((with_reducible refine Xp (N := 2) rfl ?_); refine Xn ?hg (N := 2) ?hd (cs := #[.slice Je Yc.length Ja, .slice J9 XM.length Jy, .slice Yg Xm.length Yh, .int .i64 Yu, .bool Yt]) (t := 25) ?hr ?_; (case hd => rfl); (case hg => rfl); (case hr => exact zb7); intro Bl hg w10 hbox hb; have ZN := az (hbox); have Bn := az ((zb95 : w.heap.size ≤ Bl)); have Xmr := Bn; replace HB := az (Xc zb0 hb); clear hb hbox hg; obtain ⟨XhC, XhD, XhE, X0r, X0s⟩ := cz5 ZN; obtain ⟨XhF, XhG, XhH, X0t⟩ := fz4 ZN; have X0u := Xe ZN.out 4) | ((with_reducible refine Xo (f := 28) rfl ?_); refine Yx (some 8) rfl rfl Tryz.func28 zb6 rfl #[.slice Je Yc.length Ja, .int .i64 a1] rfl zb2 ?_; (with_reducible refine (Yq.calls k _ _ Yc a1 UU _ ?side1 ?side2 A3.out).mono ?_); (case side1 => exact zb14); (case side2 => exact ML.out); rintro e w12 ⟨rfl, hb⟩; refine ⟨_, rfl, ?_⟩; replace ZN := bb ZN (fun h => by (with_reducible repeat (first | apply bn | apply bd | apply ba)); exact h) hb; replace HB := az (Xc zb1 hb); (try clear hb); (try clear hb2); (try clear hk); (try clear hi); obtain ⟨XaV, XaW, XaX, XhM, XhN⟩ := cz5 ZN; obtain ⟨XaY, XaZ, Xba, XhO⟩ := fz4 ZN; have XhP := Xe ZN.out 4) | ((with_reducible refine Xo (f := 28) rfl ?_); refine Yx (some 14) rfl rfl Tryz.func28 zb6 rfl #[.slice J9 XM.length Jy, .int .i64 UU] rfl zb2 ?_; (with_reducible refine (Yq.calls k _ _ XM UU UW _ ?side1 ?side2 A8.out).mono ?_); (case side1 => exact zb20); (case side2 => exact SH.out); rintro e w14 ⟨rfl, hb⟩; refine ⟨_, rfl, ?_⟩; replace ZN := bb ZN (fun h => by (with_reducible repeat (first | apply bn | apply bd | apply ba)); exact h) hb; replace HB := az (Xc zb1 hb); (try clear hb); (try clear hb2); (try clear hk); (try clear hi)))
   go_ret
   exact ⟨zb4, zb1⟩
  ·rw [if_neg c9] at H
   have c9b0 : decide (UW < 0) = false := decide_eq_false c9; clear c9; replace H := Option.bind_eq_some_iff.mp H; obtain ⟨M8, A150, H⟩ := H; replace H : (if M8 < 0 then (some (-1)) else (some M8)) = some r := H; have A15 := az A150; clear A150
   by_cases c16 : M8 < 0
   ·rw [if_pos c16] at H
    have XvV : decide (M8 < 0) = true := decide_eq_true c16; clear c16; obtain rfl := Option.some.inj H
    go_enter Tryz.func8, Tryz.ntmps8
    go_wp2_with (first | ((with_reducible refine Xp (N := 2) rfl ?_); refine Xn ?hg (N := 2) ?hd (cs := #[.slice Je Yc.length Ja, .slice J9 XM.length Jy, .slice Yg Xm.length Yh, .int .i64 Yu, .bool Yt]) (t := 25) ?hr ?_; (case hd => rfl); (case hg => rfl); (case hr => exact zb7); intro Bl hg w17 hbox hb; have ZN := az (hbox); have Bn := az ((zb95 : w.heap.size ≤ Bl)); have Xmr := Bn; replace HB := az (Xc zb0 hb); clear hb hbox hg; obtain ⟨XqA, XqB, XqC, XqD, XqE⟩ := cz5 ZN; obtain ⟨XqF, XqG, XqH, XqI⟩ := fz4 ZN; have XqJ := Xe ZN.out 4) | ((with_reducible refine Xo (f := 28) rfl ?_); refine Yx (some 8) rfl rfl Tryz.func28 zb6 rfl #[.slice Je Yc.length Ja, .int .i64 a1] rfl zb2 ?_; (with_reducible refine (Yq.calls k _ _ Yc a1 UU _ ?side1 ?side2 A3.out).mono ?_); (case side1 => exact zb14); (case side2 => exact ML.out); rintro e w19 ⟨rfl, hb⟩; refine ⟨_, rfl, ?_⟩; replace ZN := bb ZN (fun h => by (with_reducible repeat (first | apply bn | apply bd | apply ba)); exact h) hb; replace HB := az (Xc zb1 hb); (try clear hb); (try clear hb2); (try clear hk); (try clear hi); obtain ⟨Ro, Rp, Rq, Xhf, Xhg⟩ := cz5 ZN; obtain ⟨Rs, Rt, Ru, Xhh⟩ := fz4 ZN; have Xhi := Xe ZN.out 4) | ((with_reducible refine Xo (f := 28) rfl ?_); refine Yx (some 14) rfl rfl Tryz.func28 zb6 rfl #[.slice J9 XM.length Jy, .int .i64 UU] rfl zb2 ?_; (with_reducible refine (Yq.calls k _ _ XM UU UW _ ?side1 ?side2 A8.out).mono ?_); (case side1 => exact zb20); (case side2 => exact SH.out); rintro e w21 ⟨rfl, hb⟩; refine ⟨_, rfl, ?_⟩; replace ZN := bb ZN (fun h => by (with_reducible repeat (first | apply bn | apply bd | apply ba)); exact h) hb; replace HB := az (Xc zb1 hb); (try clear hb); (try clear hb2); (try clear hk); (try clear hi); obtain ⟨Xgq, Xgr, Xgs, Xgt, Xgu⟩ := cz5 ZN; obtain ⟨Xgv, Xgw, Xgx, Xgy⟩ := fz4 ZN; have Xgz := Xe ZN.out 4) | ((with_reducible refine Xo (f := 29) rfl ?_); refine Yx (some 20) rfl rfl Tryz.func29 zb6 rfl #[.slice Yg Xm.length Yh, .int .i64 UW] rfl zb2 ?_; (with_reducible refine (JE.calls _ _ Xm UW M8 _ ?side1 ?side2 A15.out).mono ?_); (case side1 => exact zb8); (case side2 => exact JI.out); rintro e w' ⟨rfl, ⟨nd, rfl⟩⟩; refine ⟨_, rfl, ?_⟩))
    go_ret
    exact ⟨zb4, zb1⟩
   ·rw [if_neg c16] at H
    have XvV : decide (M8 < 0) = false := decide_eq_false c16; clear c16; obtain rfl := Option.some.inj H
    go_enter Tryz.func8, Tryz.ntmps8
    go_wp2_with (first | ((with_reducible refine Xp (N := 2) rfl ?_); refine Xn ?hg (N := 2) ?hd (cs := #[.slice Je Yc.length Ja, .slice J9 XM.length Jy, .slice Yg Xm.length Yh, .int .i64 Yu, .bool Yt]) (t := 25) ?hr ?_; (case hd => rfl); (case hg => rfl); (case hr => exact zb7); intro Bl hg w23 hbox hb; have ZN := az (hbox); have Bn := az ((zb95 : w.heap.size ≤ Bl)); have Xmr := Bn; replace HB := az (Xc zb0 hb); clear hb hbox hg; obtain ⟨Xhj, Xhk, Xhl, Xhm, Xhn⟩ := cz5 ZN; obtain ⟨Xho, Xhp, Xhq, Xhr⟩ := fz4 ZN; have Xhs := Xe ZN.out 4) | ((with_reducible refine Xo (f := 28) rfl ?_); refine Yx (some 8) rfl rfl Tryz.func28 zb6 rfl #[.slice Je Yc.length Ja, .int .i64 a1] rfl zb2 ?_; (with_reducible refine (Yq.calls k _ _ Yc a1 UU _ ?side1 ?side2 A3.out).mono ?_); (case side1 => exact zb14); (case side2 => exact ML.out); rintro e w25 ⟨rfl, hb⟩; refine ⟨_, rfl, ?_⟩; replace ZN := bb ZN (fun h => by (with_reducible repeat (first | apply bn | apply bd | apply ba)); exact h) hb; replace HB := az (Xc zb1 hb); (try clear hb); (try clear hb2); (try clear hk); (try clear hi); obtain ⟨XqK, XqL, XqM, X0v, X0w⟩ := cz5 ZN; obtain ⟨XqN, XqO, XqP, X0x⟩ := fz4 ZN; have X0y := Xe ZN.out 4) | ((with_reducible refine Xo (f := 28) rfl ?_); refine Yx (some 14) rfl rfl Tryz.func28 zb6 rfl #[.slice J9 XM.length Jy, .int .i64 UU] rfl zb2 ?_; (with_reducible refine (Yq.calls k _ _ XM UU UW _ ?side1 ?side2 A8.out).mono ?_); (case side1 => exact zb20); (case side2 => exact SH.out); rintro e w27 ⟨rfl, hb⟩; refine ⟨_, rfl, ?_⟩; replace ZN := bb ZN (fun h => by (with_reducible repeat (first | apply bn | apply bd | apply ba)); exact h) hb; replace HB := az (Xc zb1 hb); (try clear hb); (try clear hb2); (try clear hk); (try clear hi); obtain ⟨XqQ, XqR, XqS, XqT, XqU⟩ := cz5 ZN; obtain ⟨XqV, XqW, XqX, XqY⟩ := fz4 ZN; have XqZ := Xe ZN.out 4) | ((with_reducible refine Xo (f := 29) rfl ?_); refine Yx (some 20) rfl rfl Tryz.func29 zb6 rfl #[.slice Yg Xm.length Yh, .int .i64 UW] rfl zb2 ?_; (with_reducible refine (JE.calls _ _ Xm UW M8 _ ?side1 ?side2 A15.out).mono ?_); (case side1 => exact zb8); (case side2 => exact JI.out); rintro e w' ⟨rfl, ⟨nd, rfl⟩⟩; refine ⟨_, rfl, ?_⟩))
    go_ret
    exact ⟨zb4, zb1⟩
def Y1.l0 : Nat → List (S73) → List (S56) → Int → Option ((List (S56)))
 | 0, _, _, _ => none
 | k + 1, x0, x3, x4 => if x4 < (x0.length : Int) then (if 0 ≤ x4 then ((Dw.f k ((Zh x0 x4).f0) ((Zh x0 x4).f1) ((Zh x0 x4).f2)).bind fun Xms => (if x4 < (x3.length : Int) then (Y1.l0 k x0 (x3.set (x4 : Int).toNat (⟨Xms.1, Xms.2.1, Xms.2.2⟩ : S56)) (wrap64 (x4 + 1))) else (none))) else (none)) else (some x3)
def Y1.f (k : Nat) (l0 : List (S73)) : Option ((List (S56))) := if 0 ≤ (l0.length : Int) then (if ((l0.length : Int) : Int).toNat ≤ 7036874417766 then (Y1.l0 k l0 (List.replicate ((l0.length : Int) : Int).toNat z56) 0) else (none)) else (none)
set_option maxHeartbeats 8000000 in
set_option maxRecDepth 100000 in
theorem Y1.calls (k : Nat) (A0 : Option Addr) (c0 : Nat) (l0 : List (S73)) (r : List (S56)) (w : World) (hr0 : Kd.C k73 w A0 l0.length l0) (hc0 : l0.length ≤ c0) (h : Y1.f k l0 = some r) :
 Calls Tryz.prog 32 #[.slice A0 l0.length c0] w fun e w' => ∃ v0_ : Value, e = .returned (v0_) ∧ Kd.S k56 56 w' w.heap.size (fun _ => True) v0_ r ∧ Below w.heap.size w w' := by
 have hu73 := Tryz.underlying73; have hu56 := Tryz.underlying56; have HR0 := az hr0; have HC0 := az hc0; clear hr0 hc0; have HB := az (Below.refl w.heap.size w); have H : (if 0 ≤ (l0.length : Int) then (if ((l0.length : Int) : Int).toNat ≤ 7036874417766 then (Y1.l0 k l0 (List.replicate ((l0.length : Int) : Int).toNat z56) 0) else (none)) else (none)) = some r := h; clear h
 by_cases c2 : 0 ≤ (l0.length : Int)
 ·rw [if_pos c2] at H
  have c2b0 := eq_true c2; have c2b1 : decide (0 ≤ (l0.length : Int)) = true := decide_eq_true c2; clear c2
  by_cases c3 : ((l0.length : Int) : Int).toNat ≤ 7036874417766
  ·rw [if_pos c3] at H
   have c3b0 := eq_true c3; have c3b1 : decide (((l0.length : Int) : Int).toNat ≤ 7036874417766) = true := decide_eq_true c3; clear c3
   obtain ⟨y302, hy302⟩ : ∃ y_ : List (S56), y_ = (List.replicate ((l0.length : Int) : Int).toNat z56) := ⟨_, rfl⟩
   replace H : (Y1.l0 k l0 y302 0) = some r := by first | (rw [hy302]; with_reducible exact H) | (have H2_ := (Option.bind_some _ _).symm.trans H; rw [hy302]; with_reducible exact H2_) | (have H2_ := (Option.bind_some _ _).symm.trans H; with_reducible exact H2_) | with_reducible exact H | (rw [hy302]; exact H) | exact H
   have Ny302 := az hy302; clear hy302; have H' := az H; clear H
   go_enter Tryz.func32, Tryz.ntmps32
   go_wp2_with (first | ((with_reducible refine Xp (N := 7) rfl ?_); refine Kd.Xu3 k56 _ 56 rfl (N := 7) rfl 28 _ _ rfl (l0.length : Int) rfl rfl Tryz.underlying28 (.agg #[(.int .i64 0), (.int .i64 0), (.slice none 0 0)]) 40 Xf5 rfl (by decide) (by omega) z56 (ok := fun _ => True) (okp := fun _ => True) (Ul _ _ _ z56 (Kd.PG _ _ _ _ _)) (fun _ hk => hk) trivial (of_decide_eq_true zb3) (Nat.le_trans (Nat.mul_le_mul_right _ (of_decide_eq_true zb3 : (l0.length : Int).toNat ≤ 7036874417766)) (by omega)) (Below.refl _ _) (Nat.le_refl _) ?_; intro v303 w4 ho5 hb hg_ hnew_; clear hg_ hnew_; (first | rw [← Ny302.out] at ho5 | (simp only [Int.reduceToNat] at ho5; rw [← Ny302.out] at ho5)); have XvW := az (Kd.Uk ho5 (XA zb0)); replace HB := az (Xc zb0 hb); clear hb ho5))
   go_loopg [4] k (fun kq v4 w' => ∃ (Xl : List (S56)) (X4 : Int), v4 = .int .i64 X4 ∧ Aside0 (Y1.l0 kq l0 Xl X4 = some r) ∧ Aside0 (kq ≤ k) ∧ Aside0 (Kd.S k56 56 w' w.heap.size (fun _ => True) v303 Xl) ∧ Aside0 (Below w.heap.size w w'))
   case atStart => exact ⟨(y302), (0), zb5, H', ⟨Nat.le_refl _⟩, ⟨by (with_reducible repeat (first | apply Kd.J7 | apply Kd.JK | apply Kd.JO)); exact XvW.out⟩, ⟨zb0⟩⟩
   case round =>
    clear H';(try clear c2);(try clear c2b0);(try clear c2b1);(try clear p2);(try clear c3);(try clear c3b0);(try clear c3b1)
    obtain ⟨Xl, X4, rfl, HA, HK1, HO_3, HB⟩ := hrel
    cases gk with
    | zero => exact absurd HA.out (by simp [Y1.l0])
    | succ k1 =>
     have H := HA.out; clear HA; simp only [Y1.l0] at H
     by_cases c6 : X4 < (l0.length : Int)
     ·rw [if_pos c6] at H
      have c6b0 : decide (X4 < (l0.length : Int)) = true := decide_eq_true c6; clear c6
      by_cases c7 : 0 ≤ X4
      ·rw [if_pos c7] at H
       have c7b0 : decide (0 ≤ X4) = true := decide_eq_true c7; clear c7; replace H := Option.bind_eq_some_iff.mp H; obtain ⟨⟨Xfb, Xfc, Xbv⟩, A80, H⟩ := H; replace H : (if X4 < (Xl.length : Int) then (Y1.l0 k1 l0 (Xl.set (X4 : Int).toNat (⟨Xfb, Xfc, Xbv⟩ : S56)) (wrap64 (X4 + 1))) else (none)) = some r := H; have A8 := az A80; clear A80
       by_cases c9 : X4 < (Xl.length : Int)
       ·rw [if_pos c9] at H
        have c9b0 : decide (X4 < (Xl.length : Int)) = true := decide_eq_true c9; clear c9
        obtain ⟨XtG, hy311⟩ : ∃ y_ : List (S56), y_ = (Xl.set (X4 : Int).toNat (⟨Xfb, Xfc, Xbv⟩ : S56)) := ⟨_, rfl⟩
        replace H : (Y1.l0 k1 l0 XtG (wrap64 (X4 + 1))) = some r := by first | (rw [hy311]; with_reducible exact H) | (have H2_ := (Option.bind_some _ _).symm.trans H; rw [hy311]; with_reducible exact H2_) | (have H2_ := (Option.bind_some _ _).symm.trans H; with_reducible exact H2_) | with_reducible exact H | (rw [hy311]; exact H) | exact H
        have Ny311 := az hy311; clear hy311; have H' := az H; clear H; have XtH : 0 ≤ (X4 : Int) := of_decide_eq_true zb3; have XtI : X4 < (l0.length : Int) := of_decide_eq_true zb3; obtain ⟨ad305, XtJ, XtK, e305, Xi0, Xi1, Xi2, hl305_2, hi305_2⟩ := XbF HR0.out X4 XtH XtI
        cases e305
        replace Xi0 := cb HB Xi0; replace Xi1 := cb HB Xi1; replace Xi2 := cb HB Xi2; have Xra := az hi305_2; have Xrb := az hl305_2; clear hi305_2 hl305_2; replace XtH := eq_true XtH; replace XtI := eq_true XtI
        go_wp2_with (first | ((with_reducible refine Xo (f := 57) rfl ?_); refine Yx (some 20) rfl rfl Tryz.func57 zb6 rfl #[.agg #[.int .i64 ((Zh l0 X4).f0), .int .i64 ((Zh l0 X4).f1), .slice XtJ ((Zh l0 X4).f2).length XtK]] rfl zb2 ?_; (with_reducible refine (Dw.calls k1 ((Zh l0 X4).f0) ((Zh l0 X4).f1) _ _ ((Zh l0 X4).f2) Xfb Xfc Xbv _ ?side1 ?side2 A8.out).mono ?_); (case side1 => repeat (first | exact (Kd.Xg Xra.out HB.out) | (with_reducible refine Kd.Jo ?_ _) | (with_reducible refine Kd.Jp ?_ _) | (with_reducible refine Kd.JJ ?_))); (case side2 => exact Xrb.out); rintro e w11 ⟨v309, rfl, ho0, hb⟩; refine ⟨_, rfl, ?_⟩; replace HO_3 := az (Kd.NR zb37 (Kd.FX ho0) hb); have Xi3 := az (Kd.YY ho0 (XA zb0)); replace HB := az (Xc zb0 hb); obtain ⟨go9A, go9c, eo9⟩ := Kd.Y2 Xi3.out; subst eo9; (try clear hb); (try clear hb2); (try clear hk); (try clear hi); (try clear ho0); have p10 : 0 ≤ (X4 : Int) := of_decide_eq_true zb3; have q10 : (X4 : Int) < ((Xl.length : Int) : Int) := of_decide_eq_true zb3; obtain ⟨go10, Kw, eo10, XlV, gl10, cl10, HG10⟩ := Kd.Xfy HO_3.out (by omega); (first | cases eo10 | (injection eo10 with ea_ en_ ec_; (first | subst ea_ | (injection ea_ with ea_; subst ea_)); subst ec_; clear en_)); have GB10 := az XlV; have GG10 := az HG10; clear XlV gl10 HG10; obtain ⟨_, ce10, hcl10, hM10, hcc10, hfr10, _, _⟩ := Kd.Ez HO_3.out z56 (X4 : Int) p10 q10; obtain ⟨ve10_2, rfl, ge10_2⟩ := Jc hM10; have Xtb : w11.cell? ⟨go10, (X4 : Int).toNat * 3, none⟩ = some (.int .i64 ((Xb Xl X4).f0)) := hcc10 0 _ rfl; have Xtc : w11.cell? ⟨go10, (X4 : Int).toNat * 3 + 1, none⟩ = some (.int .i64 ((Xb Xl X4).f1)) := hcc10 1 _ rfl; have Xtd : w11.cell? ⟨go10, (X4 : Int).toNat * 3 + 2, none⟩ = some (ve10_2) := hcc10 2 _ rfl; have hf10_0 : w11.frozen? ⟨go10, (X4 : Int).toNat * 3, none⟩ = false := hfr10 0; have hf10_1 : w11.frozen? ⟨go10, (X4 : Int).toNat * 3 + 1, none⟩ = false := hfr10 1; have hf10_2 : w11.frozen? ⟨go10, (X4 : Int).toNat * 3 + 2, none⟩ = false := hfr10 2; clear hcl10 hcc10 hfr10 hM10; replace p10 := eq_true p10; replace q10 := eq_true q10; have n_ := az (Kd.J3 (ok' := (fun k_ => some k_ ≠ (.slice go9A Xbv.length go9c : Value).ownBlock)) HO_3.out (fun k_ hk => hk.2)); clear HO_3; have HO_3 := n_; clear n_; have HX12 := az (show Kd.S k56 56 w11 w.heap.size (fun k_ => ((fun _ => True)) k_ ∧ ¬ ((fun k_ => some k_ = (.slice go9A Xbv.length go9c : Value).ownBlock)) k_) (.slice (some ⟨go10, 0, none⟩) Xl.length Kw) Xl from (by (with_reducible repeat (first | apply Kd.J7 | apply Kd.JK | apply Kd.JO)); exact Kd.J3 HO_3.out (fun k_ hk => ⟨trivial, fun e_ => hk e_⟩))); obtain ⟨oki12, ce12, hcl12, hM12, hcc12, hfr12, hoki12, hH12⟩ := Kd.Ez HX12.out z56 (X4 : Int) (of_decide_eq_true zb3) (by have h_ : (X4 : Int) < ((Xl.length : Int) : Int) := of_decide_eq_true zb3; first | exact h_ | (have e_ := (Kd.YL HO_3.out).1; omega) | simpa using h_); obtain ⟨ve12_2, rfl, ge12_2⟩ := Jc hM12; have HP12 := Kd.Xsu hH12 (of_decide_eq_true zb3) (by have h_ : (X4 : Int) < ((Xl.length : Int) : Int) := of_decide_eq_true zb3; first | exact h_ | (have e_ := (Kd.YL HO_3.out).1; omega) | simpa using h_) (seg := [.int .i64 Xfb, .int .i64 Xfc, (.slice go9A Xbv.length go9c : Value)]) (j := 0) (show 3 ≤ 3 from by decide) (x' := (⟨Xfb, Xfc, Xbv⟩ : S56)) (Ul _ _ _ (⟨Xfb, Xfc, Xbv⟩ : S56) (Kd.XZ (Kd.PY rfl (Kd.XZ (ok' := fun k_ => ((fun _ => True)) k_ ∧ k_ ≠ go10) (Kd.FU (Xi3.out) (Kd.UM HO_3.out) (by decide)) (fun k_ hk => ⟨trivial, fun e_ => (hk.2) (by rw [e_]; rfl)⟩))) (fun _ h_ => Or.inr (h_)))) (fun _ hk => hk) (fun k_ hk_ => ((Kd.XZ (ok' := fun k_ => ((fun _ => True)) k_ ∧ k_ ≠ go10) (Kd.FU (Xi3.out) (Kd.UM HO_3.out) (by decide)) (fun k_ hk => ⟨trivial, fun e_ => (hk.2) (by rw [e_]; rfl)⟩))).1 k_ hk_.symm); have Xe6 := hcc12 0 _ rfl; (try simp only [show (k56).sz = 3 from rfl, Nat.mul_one, Nat.add_zero] at Xe6); have hf12_0 := hfr12 0; (try simp only [show (k56).sz = 3 from rfl, Nat.mul_one, Nat.add_zero] at hf12_0); have Xe7 := hcc12 1 _ rfl; (try simp only [show (k56).sz = 3 from rfl, Nat.mul_one, Nat.add_zero] at Xe7); have hf12_1 := hfr12 1; (try simp only [show (k56).sz = 3 from rfl, Nat.mul_one, Nat.add_zero] at hf12_1); have Xe8 := hcc12 2 _ rfl; (try simp only [show (k56).sz = 3 from rfl, Nat.mul_one, Nat.add_zero] at Xe8); have hf12_2 := hfr12 2; (try simp only [show (k56).sz = 3 from rfl, Nat.mul_one, Nat.add_zero] at hf12_2); clear hcl12 hcc12 hfr12 hM12 hoki12 hH12) | ((with_reducible refine Fg (t := 56) (p := 21) rfl ?_); refine D5 (t := 56) (p := 21) (v := ?vo_w13) (w1 := (((w11.setCell ⟨go10, (X4 : Int).toNat * 3, none⟩ (.int .i64 Xfb)).setCell ⟨go10, (X4 : Int).toNat * 3 + 1, none⟩ (.int .i64 Xfc)).setCell ⟨go10, (X4 : Int).toNat * 3 + 2, none⟩ ((.slice go9A Xbv.length go9c : Value)))) ?hg ?ho ?hn ?hr ?_; (case ho => rfl); (case hg => rfl); (case hn => rfl); (case hr => exact zb7); intro w13 hw; have hg : w11.grownBy w13 (some go10) := (by rw [hw]; exact HP12.2); have hp_ : Kd.S k56 56 w13 w.heap.size (fun _ => True) (.slice (some ⟨go10, 0, none⟩) Xl.length Kw) XtG := (by rw [hw, Ny311.out]; exact HP12.1); clear HP12; replace HO_3 := az (hp_); replace HB := az ((by rw [hw]; exact Xq (Xq (Xq (HB.out) GB10.out) GB10.out) GB10.out : Below w.heap.size w w13)); clear Xi3; clear hg hw hp_))
        go_roundg k1
        case measure => have := HK1.out; omega
        case rel => exact ⟨(XtG), (wrap64 (X4 + 1)), zb5, H', ⟨zb33⟩, ⟨zb37⟩, ⟨zb0⟩⟩
       ·rw [if_neg c9] at H
        exact absurd H (by simp)
      ·rw [if_neg c7] at H
       exact absurd H (by simp)
     ·rw [if_neg c6] at H
      have c6b0 : decide (X4 < (l0.length : Int)) = false := decide_eq_false c6; clear c6; obtain rfl := Option.some.inj H
      go_wp2
      go_ret
      exact ⟨_, zb4, zb37, zb0⟩
  ·rw [if_neg c3] at H
   exact absurd H (by simp)
 ·rw [if_neg c2] at H
  exact absurd H (by simp)
def Xw.l0 : Nat → List (S56) → List (S56) → Int → Option (Bool)
 | 0, _, _, _ => none
 | k + 1, x0, x1, x5 => if x5 < (x0.length : Int) then (if 0 ≤ x5 then (if x5 < (x1.length : Int) then ((VX.f k ((Xb x0 x5).f0) ((Xb x0 x5).f1) ((Xb x0 x5).f2) ((Xb x1 x5).f0) ((Xb x1 x5).f1) ((Xb x1 x5).f2)).bind fun Xrc => (if Xrc = true then (Xw.l0 k x0 x1 (wrap64 (x5 + 1))) else (some false))) else (none)) else (none)) else (some true)
def Xw.f (k : Nat) (l0 : List (S56)) (l1 : List (S56)) : Option (Bool) := if (l0.length : Int) = (l1.length : Int) then (Xw.l0 k l0 l1 0) else (some false)
def Xw.T6 : Bool × List (List Nat × List Nat) := (true, [([], []), ([], []), ([0, 1], [0, 1]), ([2], [2]), ([], []), ([], []), ([4, 5], [4, 5]), ([6], [6]), ([3, 7], [3, 7]), ([8], [8])])
def Xw.B6 : List Nat := [0, 0, 3, 7, 0, 0, 48, 112, 255, 511]
theorem Xw.Ob : JH .any (opsOf Tryz.f23 6) = Xw.T6 := by kernel_rfl
theorem Xw.NS : Z4 Xw.T6.2 Xw.B6 = true := by kernel_rfl
set_option maxHeartbeats 8000000 in
set_option maxRecDepth 100000 in
theorem Xw.calls (k : Nat) (A0 : Option Addr) (c0 : Nat) (l0 : List (S56)) (A1 : Option Addr) (c1 : Nat) (l1 : List (S56)) (r : Bool) (w : World) (hr0 : Kd.C k56 w A0 l0.length l0) (hc0 : l0.length ≤ c0) (hr1 : Kd.C k56 w A1 l1.length l1) (hc1 : l1.length ≤ c1) (h : Xw.f k l0 l1 = some r) :
 Calls Tryz.prog 23 #[.slice A0 l0.length c0, .slice A1 l1.length c1] w fun e w' => e = .returned (.bool r) ∧ Below w.heap.size w w' := by
 have hu56 := Tryz.underlying56; have HR0 := az hr0; have HC0 := az hc0; clear hr0 hc0; have HR1 := az hr1; have HC1 := az hc1; clear hr1 hc1; have HB := az (Below.refl w.heap.size w); have H : (if (l0.length : Int) = (l1.length : Int) then (Xw.l0 k l0 l1 0) else (some false)) = some r := h; clear h
 by_cases c3 : (l0.length : Int) = (l1.length : Int)
 ·rw [if_pos c3] at H
  have c3b0 : ((l0.length : Int) == (l1.length : Int)) = true := beq_iff_eq.mpr c3; have c3b1 : ((l0.length : Int) != (l1.length : Int)) = false := bne_eq_false_iff_eq.mpr c3
  have c3b2 : (l0.length == l1.length) = true := by first | simpa using c3 | (simp at c3 ⊢; omega)
  clear c3; have H' := az H; clear H
  go_enter Tryz.func23, Tryz.ntmps23
  go_wp2
  go_loopg [5] k (fun kq v5 w' => ∃ (Xh : Int), v5 = .int .i64 Xh ∧ Aside0 (Xw.l0 kq l0 l1 Xh = some r) ∧ Aside0 (kq ≤ k) ∧ Aside0 (Below w.heap.size w w'))
  case atStart => exact ⟨(0), zb5, H', ⟨Nat.le_refl _⟩, ⟨zb0⟩⟩
  case round =>
   clear H';(try clear c1);(try clear c2);(try clear p2);(try clear c3);(try clear c3b0);(try clear c3b1);(try clear c3b2)
   obtain ⟨Xh, rfl, HA, HK1, HB⟩ := hrel
   cases gk with
   | zero => exact absurd HA.out (by simp [Xw.l0])
   | succ k1 =>
    have H := HA.out; clear HA; simp only [Xw.l0] at H
    by_cases c4 : Xh < (l0.length : Int)
    ·rw [if_pos c4] at H
     have c4b0 : decide (Xh < (l0.length : Int)) = true := decide_eq_true c4; clear c4
     by_cases c5 : 0 ≤ Xh
     ·rw [if_pos c5] at H
      have c5b0 : decide (0 ≤ Xh) = true := decide_eq_true c5; clear c5
      by_cases c6 : Xh < (l1.length : Int)
      ·rw [if_pos c6] at H
       have c6b0 : decide (Xh < (l1.length : Int)) = true := decide_eq_true c6; clear c6; replace H := Option.bind_eq_some_iff.mp H; obtain ⟨Xrc, A70, H⟩ := H; replace H : (if Xrc = true then (Xw.l0 k1 l0 l1 (wrap64 (Xh + 1))) else (some false)) = some r := H; have A7 := az A70; clear A70
       by_cases c8 : Xrc = true
       ·subst c8
        have H1 : (Xw.l0 k1 l0 l1 (wrap64 (Xh + 1))) = some r := by rw [if_pos rfl] at H; exact H
        clear H; have H := H1; clear H1; have H' := az H; clear H
        try go_wp2
        replace HB := az (wd HB.out); have Xfd : 0 ≤ (Xh : Int) := of_decide_eq_true zb3; have Xfe : Xh < (l0.length : Int) := of_decide_eq_true zb3; obtain ⟨Nl, Bo, Bq, XtL, Ud, Ue, Uf, hl512_2, hi512_2⟩ := Zl HR0.out Xh Xfd Xfe; have hw512_2 := Uf; have hw512_1 := Ue; have hw512_0 := Ud
        cases XtL
        replace Ud := cb HB Ud; replace Ue := cb HB Ue; replace Uf := cb HB Uf; have TP := az hi512_2; have Xbw := az hl512_2; clear hi512_2 hl512_2; replace Xfd := eq_true Xfd; replace Xfe := eq_true Xfe; have Xff : 0 ≤ (Xh : Int) := of_decide_eq_true zb3; have Xfg : Xh < (l1.length : Int) := of_decide_eq_true zb3; obtain ⟨Nn, Br, Bt, XtM, Ug, Uh, Ui, hl513_2, hi513_2⟩ := Zl HR1.out Xh Xff Xfg; have hw513_2 := Ui; have hw513_1 := Uh; have hw513_0 := Ug
        cases XtM
        replace Ug := cb HB Ug; replace Uh := cb HB Uh; replace Ui := cb HB Ui; have TN := az hi513_2; have Xbx := az hl513_2; clear hi513_2 hl513_2; replace Xff := eq_true Xff; replace Xfg := eq_true Xfg; refine Yw (n := 10) (S := fun w' => w'.cell? (Nl.add ((Xh).toNat * 3)) = some (.int .i64 ((Xb l0 Xh).f0)) ∧ w'.cell? ⟨(Nl.add ((Xh).toNat * 3)).block, (Nl.add ((Xh).toNat * 3)).off + 1, none⟩ = some (.int .i64 ((Xb l0 Xh).f1)) ∧ w'.cell? ⟨(Nl.add ((Xh).toNat * 3)).block, (Nl.add ((Xh).toNat * 3)).off + 2, none⟩ = some (.slice Bo ((Xb l0 Xh).f2).length Bq) ∧ w'.cell? (Nn.add ((Xh).toNat * 3)) = some (.int .i64 ((Xb l1 Xh).f0)) ∧ w'.cell? ⟨(Nn.add ((Xh).toNat * 3)).block, (Nn.add ((Xh).toNat * 3)).off + 1, none⟩ = some (.int .i64 ((Xb l1 Xh).f1)) ∧ w'.cell? ⟨(Nn.add ((Xh).toNat * 3)).block, (Nn.add ((Xh).toNat * 3)).off + 2, none⟩ = some (.slice Br ((Xb l1 Xh).f2).length Bt)) (ds := []) Xnm zb6 rfl rfl ⟨(cb HB hw512_0), (cb HB hw512_1), (cb HB hw512_2), (cb HB hw513_0), (cb HB hw513_1), (cb HB hw513_2)⟩ (fun hHeld => ?_); refine XH Xw.Ob Xw.NS (fun HT_ HW_ => ?_); generalize wr.drew = w9 at HB TP TN Ud Ue Uf Ug Uh Ui hHeld ⊢; refine pu 0 17 Xnn HT_ ?_; refine pu 1 18 Xno HT_ ?_; refine pu 2 19 Xnp HT_ ?_; refine pu 4 21 Xnq HT_ ?_; refine pu 5 22 Xnr HT_ ?_; refine pu 6 23 Xns HT_ ?_; refine tk 3 20 Xnt HT_ HW_ hHeld ?_; refine tk 7 24 Xnu HT_ HW_ hHeld ?_
        refine Zj (i := 8) (N := some 25) Xnv rfl rfl (Yl HT_.out zb6) (by decide) (fun K hK => ?_); refine YI Tryz.func41 zb6 rfl #[.agg #[.int .i64 ((Xb l0 Xh).f0), .int .i64 ((Xb l0 Xh).f1), .slice Bo ((Xb l0 Xh).f2).length Bq], .agg #[.int .i64 ((Xb l1 Xh).f0), .int .i64 ((Xb l1 Xh).f1), .slice Br ((Xb l1 Xh).f2).length Bt]] (by rfl) rfl rfl zb2 ?_
        with_reducible refine (VX.calls k1 ((Xb l0 Xh).f0) ((Xb l0 Xh).f1) _ _ ((Xb l0 Xh).f2) ((Xb l1 Xh).f0) ((Xb l1 Xh).f1) _ _ ((Xb l1 Xh).f2) true _ ?side1 ?side2 ?side3 ?side4 A7.out).mono ?_
        (case side1 => exact zb75)
        (case side2 => exact Xbw.out)
        (case side3 => exact zb74)
        (case side4 => exact Xbx.out)
        rintro e w10 ⟨rfl, hb⟩; refine ⟨_, rfl, ?_⟩; replace HB := az (Xc zb0 hb)
        (try clear hb);(try clear hb2);(try clear hk);(try clear hi)
        refine hK.out _ _ ⟨(cb HB hw512_0), (cb HB hw512_1), (cb HB hw512_2), (cb HB hw513_0), (cb HB hw513_1), (cb HB hw513_2)⟩ (fun hHeld => ?_); clear hK K; refine XQ (a' := ?_) ?_ ?_; rotate_left
        ·show Act.put _ (some 25) _ = _
         simp only [Act.put, List.setIfInBounds_toArray, List.set_cons_zero, List.set_cons_succ, Xz, XF]
         rfl
        refine pu 9 26 XjX HT_ ?_; refine YX (YA HT_.out zb6) ?_
        try go_wp2
        go_roundg k1
        case measure => have := HK1.out; omega
        case rel => exact ⟨(wrap64 (Xh + 1)), zb5, H', ⟨zb33⟩, ⟨zb0⟩⟩
       ·replace c8 := Bool.eq_false_iff.mpr c8
        subst c8
        have H1 : (some false) = some r := by rw [if_neg (show ¬ (false = true) by decide)] at H; exact H
        clear H; have H := H1; clear H1; obtain rfl := Option.some.inj H
        try go_wp2
        replace HB := az (wd HB.out); have Xfd : 0 ≤ (Xh : Int) := of_decide_eq_true zb3; have Xfe : Xh < (l0.length : Int) := of_decide_eq_true zb3; obtain ⟨Nl, Bo, Bq, XtL, Ud, Ue, Uf, hl512_2, hi512_2⟩ := Zl HR0.out Xh Xfd Xfe; have hw512_2 := Uf; have hw512_1 := Ue; have hw512_0 := Ud
        cases XtL
        replace Ud := cb HB Ud; replace Ue := cb HB Ue; replace Uf := cb HB Uf; have TP := az hi512_2; have Xbw := az hl512_2; clear hi512_2 hl512_2; replace Xfd := eq_true Xfd; replace Xfe := eq_true Xfe; have Xff : 0 ≤ (Xh : Int) := of_decide_eq_true zb3; have Xfg : Xh < (l1.length : Int) := of_decide_eq_true zb3; obtain ⟨Nn, Br, Bt, XtM, Ug, Uh, Ui, hl513_2, hi513_2⟩ := Zl HR1.out Xh Xff Xfg; have hw513_2 := Ui; have hw513_1 := Uh; have hw513_0 := Ug
        cases XtM
        replace Ug := cb HB Ug; replace Uh := cb HB Uh; replace Ui := cb HB Ui; have TN := az hi513_2; have Xbx := az hl513_2; clear hi513_2 hl513_2; replace Xff := eq_true Xff; replace Xfg := eq_true Xfg; refine Yw (n := 10) (S := fun w' => w'.cell? (Nl.add ((Xh).toNat * 3)) = some (.int .i64 ((Xb l0 Xh).f0)) ∧ w'.cell? ⟨(Nl.add ((Xh).toNat * 3)).block, (Nl.add ((Xh).toNat * 3)).off + 1, none⟩ = some (.int .i64 ((Xb l0 Xh).f1)) ∧ w'.cell? ⟨(Nl.add ((Xh).toNat * 3)).block, (Nl.add ((Xh).toNat * 3)).off + 2, none⟩ = some (.slice Bo ((Xb l0 Xh).f2).length Bq) ∧ w'.cell? (Nn.add ((Xh).toNat * 3)) = some (.int .i64 ((Xb l1 Xh).f0)) ∧ w'.cell? ⟨(Nn.add ((Xh).toNat * 3)).block, (Nn.add ((Xh).toNat * 3)).off + 1, none⟩ = some (.int .i64 ((Xb l1 Xh).f1)) ∧ w'.cell? ⟨(Nn.add ((Xh).toNat * 3)).block, (Nn.add ((Xh).toNat * 3)).off + 2, none⟩ = some (.slice Br ((Xb l1 Xh).f2).length Bt)) (ds := []) Xnm zb6 rfl rfl ⟨(cb HB hw512_0), (cb HB hw512_1), (cb HB hw512_2), (cb HB hw513_0), (cb HB hw513_1), (cb HB hw513_2)⟩ (fun hHeld => ?_); refine XH Xw.Ob Xw.NS (fun HT_ HW_ => ?_); generalize wr.drew = w11 at HB TP TN Ud Ue Uf Ug Uh Ui hHeld ⊢; refine pu 0 17 Xnn HT_ ?_; refine pu 1 18 Xno HT_ ?_; refine pu 2 19 Xnp HT_ ?_; refine pu 4 21 Xnq HT_ ?_; refine pu 5 22 Xnr HT_ ?_; refine pu 6 23 Xns HT_ ?_; refine tk 3 20 Xnt HT_ HW_ hHeld ?_; refine tk 7 24 Xnu HT_ HW_ hHeld ?_
        refine Zj (i := 8) (N := some 25) Xnv rfl rfl (Yl HT_.out zb6) (by decide) (fun K hK => ?_); refine YI Tryz.func41 zb6 rfl #[.agg #[.int .i64 ((Xb l0 Xh).f0), .int .i64 ((Xb l0 Xh).f1), .slice Bo ((Xb l0 Xh).f2).length Bq], .agg #[.int .i64 ((Xb l1 Xh).f0), .int .i64 ((Xb l1 Xh).f1), .slice Br ((Xb l1 Xh).f2).length Bt]] (by rfl) rfl rfl zb2 ?_
        with_reducible refine (VX.calls k1 ((Xb l0 Xh).f0) ((Xb l0 Xh).f1) _ _ ((Xb l0 Xh).f2) ((Xb l1 Xh).f0) ((Xb l1 Xh).f1) _ _ ((Xb l1 Xh).f2) false _ ?side1 ?side2 ?side3 ?side4 A7.out).mono ?_
        (case side1 => exact zb75)
        (case side2 => exact Xbw.out)
        (case side3 => exact zb74)
        (case side4 => exact Xbx.out)
        rintro e w12 ⟨rfl, hb⟩; refine ⟨_, rfl, ?_⟩; replace HB := az (Xc zb0 hb)
        (try clear hb);(try clear hb2);(try clear hk);(try clear hi)
        refine hK.out _ _ ⟨(cb HB hw512_0), (cb HB hw512_1), (cb HB hw512_2), (cb HB hw513_0), (cb HB hw513_1), (cb HB hw513_2)⟩ (fun hHeld => ?_); clear hK K; refine XQ (a' := ?_) ?_ ?_; rotate_left
        ·show Act.put _ (some 25) _ = _
         simp only [Act.put, List.setIfInBounds_toArray, List.set_cons_zero, List.set_cons_succ, Xz, XF]
         rfl
        refine pu 9 26 XjX HT_ ?_; refine YX (YA HT_.out zb6) ?_
        try go_wp2
        go_ret
        exact ⟨zb4, zb0⟩
      ·rw [if_neg c6] at H
       exact absurd H (by simp)
     ·rw [if_neg c5] at H
      exact absurd H (by simp)
    ·rw [if_neg c4] at H
     have c4b0 : decide (Xh < (l0.length : Int)) = false := decide_eq_false c4; clear c4; obtain rfl := Option.some.inj H
     go_wp2
     go_ret
     exact ⟨zb4, zb0⟩
 ·rw [if_neg c3] at H
  have c3b0 : ((l0.length : Int) == (l1.length : Int)) = false := beq_eq_false_iff_ne.mpr c3; have c3b1 : ((l0.length : Int) != (l1.length : Int)) = true := bne_iff_ne.mpr c3
  have c3b2 : (l0.length == l1.length) = false := by first | simpa using c3 | (simp at c3 ⊢; omega)
  obtain rfl := Option.some.inj H
  go_enter Tryz.func23, Tryz.ntmps23
  go_wp2
  go_ret
  exact ⟨zb4, zb0⟩
def JF.f (k : Nat) (Yc : List (S56)) (XM : List (S56)) (Xm : List (S76)) (Yu : Int) (Yt : Bool) (FM : List (S56)) (FN : List (S56)) (ZC : List (S76)) (YU : Int) (ZI : Bool) : Option (Bool) := (Xw.f k Yc FM).bind fun Xk0 => (if Xk0 = true then ((Xw.f k XM FN).bind fun O3 => (if O3 = true then ((XJ.f k Xm ZC).bind fun Pz => (if Pz = true then (if Yu = YU then (if (Yt != ZI) = true then (some false) else (some true)) else (some false)) else (some false))) else (some false))) else (some false))
set_option maxHeartbeats 8000000 in
set_option maxRecDepth 100000 in
theorem JF.calls (k : Nat) (Je : Option Addr) (Ja : Nat) (Yc : List (S56)) (J9 : Option Addr) (Jy : Nat) (XM : List (S56)) (Yg : Option Addr) (Yh : Nat) (Xm : List (S76)) (Yu : Int) (Yt : Bool) (P5 : Option Addr) (P6 : Nat) (FM : List (S56)) (K3 : Option Addr) (K4 : Nat) (FN : List (S56)) (VR : Option Addr) (VS : Nat) (ZC : List (S76)) (YU : Int) (ZI : Bool) (r : Bool) (w : World) (hr0_0 : Kd.C k56 w Je Yc.length Yc) (hc0_0 : Yc.length ≤ Ja) (hr0_1 : Kd.C k56 w J9 XM.length XM) (hc0_1 : XM.length ≤ Jy) (hr0_2 : Kd.C k76 w Yg Xm.length Xm) (hc0_2 : Xm.length ≤ Yh) (hr1_0 : Kd.C k56 w P5 FM.length FM) (hc1_0 : FM.length ≤ P6) (hr1_1 : Kd.C k56 w K3 FN.length FN) (hc1_1 : FN.length ≤ K4) (hr1_2 : Kd.C k76 w VR ZC.length ZC) (hc1_2 : ZC.length ≤ VS) (h : JF.f k Yc XM Xm Yu Yt FM FN ZC YU ZI = some r) :
 Calls Tryz.prog 12 #[.agg #[.slice Je Yc.length Ja, .slice J9 XM.length Jy, .slice Yg Xm.length Yh, .int .i64 Yu, .bool Yt], .agg #[.slice P5 FM.length P6, .slice K3 FN.length K4, .slice VR ZC.length VS, .int .i64 YU, .bool ZI]] w fun e w' => e = .returned (.bool r) ∧ Below w.heap.size w w' := by
 have hu31 := Tryz.underlying31; have OG := az hr0_0; have ML := az hc0_0; clear hr0_0 hc0_0; have Pf := az hr0_1; have SH := az hc0_1; clear hr0_1 hc0_1; have U6 := az hr0_2; have JI := az hc0_2; clear hr0_2 hc0_2; have XuZ := az hr1_0; have OO := az hc1_0; clear hr1_0 hc1_0; have Xva := az hr1_1; have Xcl := az hc1_1; clear hr1_1 hc1_1; have XfX := az hr1_2; have Ng := az hc1_2; clear hr1_2 hc1_2; have HB := az (Below.refl w.heap.size w); have H : ((Xw.f k Yc FM).bind fun Xk0 => (if Xk0 = true then ((Xw.f k XM FN).bind fun O3 => (if O3 = true then ((XJ.f k Xm ZC).bind fun Pz => (if Pz = true then (if Yu = YU then (if (Yt != ZI) = true then (some false) else (some true)) else (some false)) else (some false))) else (some false))) else (some false))) = some r := h; clear h; replace H := Option.bind_eq_some_iff.mp H; obtain ⟨Xk0, A30, H⟩ := H; replace H : (if Xk0 = true then ((Xw.f k XM FN).bind fun O3 => (if O3 = true then ((XJ.f k Xm ZC).bind fun Pz => (if Pz = true then (if Yu = YU then (if (Yt != ZI) = true then (some false) else (some true)) else (some false)) else (some false))) else (some false))) else (some false)) = some r := H; have A3 := az A30; clear A30
 by_cases c4 : Xk0 = true
 ·subst c4
  have H1 : ((Xw.f k XM FN).bind fun O3 => (if O3 = true then ((XJ.f k Xm ZC).bind fun Pz => (if Pz = true then (if Yu = YU then (if (Yt != ZI) = true then (some false) else (some true)) else (some false)) else (some false))) else (some false))) = some r := by rw [if_pos rfl] at H; exact H
  clear H; have H := H1; clear H1; replace H := Option.bind_eq_some_iff.mp H; obtain ⟨O3, A50, H⟩ := H; replace H : (if O3 = true then ((XJ.f k Xm ZC).bind fun Pz => (if Pz = true then (if Yu = YU then (if (Yt != ZI) = true then (some false) else (some true)) else (some false)) else (some false))) else (some false)) = some r := H; have A5 := az A50; clear A50
  by_cases c6 : O3 = true
  ·subst c6
   have H1 : ((XJ.f k Xm ZC).bind fun Pz => (if Pz = true then (if Yu = YU then (if (Yt != ZI) = true then (some false) else (some true)) else (some false)) else (some false))) = some r := by rw [if_pos rfl] at H; exact H
   clear H; have H := H1; clear H1; replace H := Option.bind_eq_some_iff.mp H; obtain ⟨Pz, A70, H⟩ := H; replace H : (if Pz = true then (if Yu = YU then (if (Yt != ZI) = true then (some false) else (some true)) else (some false)) else (some false)) = some r := H; have A7 := az A70; clear A70
   by_cases c8 : Pz = true
   ·subst c8
    have H1 : (if Yu = YU then (if (Yt != ZI) = true then (some false) else (some true)) else (some false)) = some r := by rw [if_pos rfl] at H; exact H
    clear H; have H := H1; clear H1
    by_cases c9 : Yu = YU
    ·rw [if_pos c9] at H
     have c9b0 : (Yu == YU) = true := beq_iff_eq.mpr c9; have c9b1 : (Yu != YU) = false := bne_eq_false_iff_eq.mpr c9; clear c9
     by_cases c10 : (Yt != ZI) = true
     ·rw [if_pos c10] at H
      have Vh : (Yt != ZI) = true := c10
      (try (have U8 : decide (Yt = ZI) = false := by simpa using c10))
      (try (have XvX : (Yt == ZI) = false := by simpa using c10))
      (try (have c10b3 : ¬ (Yt = ZI) := by simpa using c10))
      clear c10; obtain rfl := Option.some.inj H
      go_enter Tryz.func12, Tryz.ntmps12
      go_wp2_with (first | ((with_reducible refine Xp (N := 2) rfl ?_); refine Xn ?hg (N := 2) ?hd (cs := #[.slice Je Yc.length Ja, .slice J9 XM.length Jy, .slice Yg Xm.length Yh, .int .i64 Yu, .bool Yt]) (t := 31) ?hr ?_; (case hd => rfl); (case hg => rfl); (case hr => exact zb7); intro Np hg w11 hbox hb; have Yy := az (hbox); have Nq := az ((zb95 : w.heap.size ≤ Np)); have Xcm := Nq; replace HB := az (Xc zb0 hb); clear hb hbox hg) | ((with_reducible refine Xp (N := 3) rfl ?_); refine Xn ?hg (N := 3) ?hd (cs := #[.slice P5 FM.length P6, .slice K3 FN.length K4, .slice VR ZC.length VS, .int .i64 YU, .bool ZI]) (t := 31) ?hr ?_; (case hd => rfl); (case hg => rfl); (case hr => exact zb7); intro Nr hg w12 hbox hb; have Yz := az (hbox); have Ns := az ((zb97 : w.heap.size ≤ Nr)); have Xcn := Ns; replace HB := az (Xc zb1 hb); obtain ⟨Vk, Vl⟩ := nb Yy hg (fun h => by (with_reducible repeat (first | apply bn | apply bd | apply ba)); exact h); replace Yy := bb Yy (fun h => by (with_reducible repeat (first | apply bn | apply bd | apply ba)); exact h) hb; clear hb hbox hg; have XrZ := Vk.out; have Xsa := Vl.out; obtain ⟨NV, NW, NY, Rb, Re⟩ := cz5 Yy; obtain ⟨NZ, Sa, Sb, Rf, Rh⟩ := fz5 Yy; obtain ⟨Ri, Rj, Rk, Xou, Xov⟩ := cz5 Yz; obtain ⟨Rl, Rm, Rn, Xow⟩ := fz4 Yz; have Xox := Xe Yz.out 4) | ((with_reducible refine Xo (f := 23) rfl ?_); refine Yx (some 9) rfl rfl Tryz.func23 zb6 rfl #[.slice Je Yc.length Ja, .slice P5 FM.length P6] rfl zb2 ?_; (with_reducible refine (Xw.calls k _ _ Yc _ _ FM true _ ?side1 ?side2 ?side3 ?side4 A3.out).mono ?_); (case side1 => exact zb14); (case side2 => exact ML.out); (case side3 => exact zb30); (case side4 => exact OO.out); rintro e w16 ⟨rfl, hb⟩; refine ⟨_, rfl, ?_⟩; replace Yy := bb Yy (fun h => by (with_reducible repeat (first | apply bn | apply bd | apply ba)); exact h) hb; replace Yz := bb Yz (fun h => by (with_reducible repeat (first | apply bn | apply bd | apply ba)); exact h) hb; replace HB := az (Xc zb1 hb); (try clear hb); (try clear hb2); (try clear hk); (try clear hi); obtain ⟨QQ, QR, QS, Xgc, Xgd⟩ := cz5 Yy; obtain ⟨QT, QU, QV, Xge, Xgf⟩ := fz5 Yy; obtain ⟨XqA, XqB, XqC, XqD, XqE⟩ := cz5 Yz; obtain ⟨XqF, XqG, XqH, XqI⟩ := fz4 Yz; have XqJ := Xe Yz.out 4) | ((with_reducible refine Xo (f := 23) rfl ?_); refine Yx (some 15) rfl rfl Tryz.func23 zb6 rfl #[.slice J9 XM.length Jy, .slice K3 FN.length K4] rfl zb2 ?_; (with_reducible refine (Xw.calls k _ _ XM _ _ FN true _ ?side1 ?side2 ?side3 ?side4 A5.out).mono ?_); (case side1 => exact zb20); (case side2 => exact SH.out); (case side3 => exact zb35); (case side4 => exact Xcl.out); rintro e w19 ⟨rfl, hb⟩; refine ⟨_, rfl, ?_⟩; replace Yy := bb Yy (fun h => by (with_reducible repeat (first | apply bn | apply bd | apply ba)); exact h) hb; replace Yz := bb Yz (fun h => by (with_reducible repeat (first | apply bn | apply bd | apply ba)); exact h) hb; replace HB := az (Xc zb1 hb); (try clear hb); (try clear hb2); (try clear hk); (try clear hi); obtain ⟨Ro, Rp, Rq, Xhf, Xhg⟩ := cz5 Yy; obtain ⟨Rs, Rt, Ru, Xhh, Xhi⟩ := fz5 Yy; obtain ⟨Xic, Xid, Xie, XpK, XpL⟩ := cz5 Yz; obtain ⟨Xif, Xig, Xih, XpM⟩ := fz4 Yz; have XpN := Xe Yz.out 4) | ((with_reducible refine Xo (f := 36) rfl ?_); refine Yx (some 21) rfl rfl Tryz.func36 zb6 rfl #[.slice Yg Xm.length Yh, .slice VR ZC.length VS] rfl zb2 ?_; (with_reducible refine (XJ.calls k _ _ Xm _ _ ZC true _ ?side1 ?side2 ?side3 ?side4 A7.out).mono ?_); (case side1 => exact zb8); (case side2 => exact JI.out); (case side3 => exact zb19); (case side4 => exact Ng.out); rintro e w22 ⟨rfl, hb⟩; refine ⟨_, rfl, ?_⟩; replace Yy := bb Yy (fun h => by (with_reducible repeat (first | apply bn | apply bd | apply ba)); exact h) hb; replace Yz := bb Yz (fun h => by (with_reducible repeat (first | apply bn | apply bd | apply ba)); exact h) hb; replace HB := az (Xc zb1 hb); (try clear hb); (try clear hb2); (try clear hk); (try clear hi); obtain ⟨XpO, XpP, XpQ, XpR, XpS⟩ := cz5 Yy; obtain ⟨XpT, XpU, XpV, XpW, XpX⟩ := fz5 Yy; obtain ⟨Xhj, Xhk, Xhl, Xhm, Xhn⟩ := cz5 Yz; obtain ⟨Xho, Xhp, Xhq, Xhr⟩ := fz4 Yz; have Xhs := Xe Yz.out 4))
      go_ret
      exact ⟨zb4, zb1⟩
     ·rw [if_neg c10] at H
      have Vh : (Yt != ZI) = false := by simpa using c10
      (try (have U8 : decide (Yt = ZI) = true := by simpa using c10))
      (try (have XvX : (Yt == ZI) = true := by simpa using c10))
      clear c10; obtain rfl := Option.some.inj H
      go_enter Tryz.func12, Tryz.ntmps12
      go_wp2_with (first | ((with_reducible refine Xp (N := 2) rfl ?_); refine Xn ?hg (N := 2) ?hd (cs := #[.slice Je Yc.length Ja, .slice J9 XM.length Jy, .slice Yg Xm.length Yh, .int .i64 Yu, .bool Yt]) (t := 31) ?hr ?_; (case hd => rfl); (case hg => rfl); (case hr => exact zb7); intro Np hg w25 hbox hb; have Yy := az (hbox); have Nq := az ((zb95 : w.heap.size ≤ Np)); have Xcm := Nq; replace HB := az (Xc zb0 hb); clear hb hbox hg) | ((with_reducible refine Xp (N := 3) rfl ?_); refine Xn ?hg (N := 3) ?hd (cs := #[.slice P5 FM.length P6, .slice K3 FN.length K4, .slice VR ZC.length VS, .int .i64 YU, .bool ZI]) (t := 31) ?hr ?_; (case hd => rfl); (case hg => rfl); (case hr => exact zb7); intro Nr hg w26 hbox hb; have Yz := az (hbox); have Ns := az ((zb97 : w.heap.size ≤ Nr)); have Xcn := Ns; replace HB := az (Xc zb1 hb); obtain ⟨Vk, Vl⟩ := nb Yy hg (fun h => by (with_reducible repeat (first | apply bn | apply bd | apply ba)); exact h); replace Yy := bb Yy (fun h => by (with_reducible repeat (first | apply bn | apply bd | apply ba)); exact h) hb; clear hb hbox hg; have hnb27 := Vk.out; have hnc27 := Vl.out; obtain ⟨XqQ, XqR, XqS, XqT, XqU⟩ := cz5 Yy; obtain ⟨XqV, XqW, XqX, XqY, XqZ⟩ := fz5 Yy; obtain ⟨Xo4, Xo5, Xo6, Xo7, Xo8⟩ := cz5 Yz; obtain ⟨Xo9, XoA, XoB, XoC⟩ := fz4 Yz; have XoD := Xe Yz.out 4) | ((with_reducible refine Xo (f := 23) rfl ?_); refine Yx (some 9) rfl rfl Tryz.func23 zb6 rfl #[.slice Je Yc.length Ja, .slice P5 FM.length P6] rfl zb2 ?_; (with_reducible refine (Xw.calls k _ _ Yc _ _ FM true _ ?side1 ?side2 ?side3 ?side4 A3.out).mono ?_); (case side1 => exact zb14); (case side2 => exact ML.out); (case side3 => exact zb30); (case side4 => exact OO.out); rintro e w30 ⟨rfl, hb⟩; refine ⟨_, rfl, ?_⟩; replace Yy := bb Yy (fun h => by (with_reducible repeat (first | apply bn | apply bd | apply ba)); exact h) hb; replace Yz := bb Yz (fun h => by (with_reducible repeat (first | apply bn | apply bd | apply ba)); exact h) hb; replace HB := az (Xc zb1 hb); (try clear hb); (try clear hb2); (try clear hk); (try clear hi); obtain ⟨X0z, X00, X01, X02, X03⟩ := cz5 Yy; obtain ⟨X04, X05, X06, X07, X08⟩ := fz5 Yy; obtain ⟨X09, X0A, X0B, X0C, X0D⟩ := cz5 Yz; obtain ⟨X0E, X0F, X0G, X0H⟩ := fz4 Yz; have X0I := Xe Yz.out 4) | ((with_reducible refine Xo (f := 23) rfl ?_); refine Yx (some 15) rfl rfl Tryz.func23 zb6 rfl #[.slice J9 XM.length Jy, .slice K3 FN.length K4] rfl zb2 ?_; (with_reducible refine (Xw.calls k _ _ XM _ _ FN true _ ?side1 ?side2 ?side3 ?side4 A5.out).mono ?_); (case side1 => exact zb20); (case side2 => exact SH.out); (case side3 => exact zb35); (case side4 => exact Xcl.out); rintro e w33 ⟨rfl, hb⟩; refine ⟨_, rfl, ?_⟩; replace Yy := bb Yy (fun h => by (with_reducible repeat (first | apply bn | apply bd | apply ba)); exact h) hb; replace Yz := bb Yz (fun h => by (with_reducible repeat (first | apply bn | apply bd | apply ba)); exact h) hb; replace HB := az (Xc zb1 hb); (try clear hb); (try clear hb2); (try clear hk); (try clear hi); obtain ⟨XoE, XoF, XoG, XoH, XoI⟩ := cz5 Yy; obtain ⟨XoJ, XoK, XoL, XoM, XoN⟩ := fz5 Yy; obtain ⟨Xht, Xhu, Xhv, XoO, XoP⟩ := cz5 Yz; obtain ⟨Xhw, Xhx, Xhy, XoQ⟩ := fz4 Yz; have XoR := Xe Yz.out 4) | ((with_reducible refine Xo (f := 36) rfl ?_); refine Yx (some 21) rfl rfl Tryz.func36 zb6 rfl #[.slice Yg Xm.length Yh, .slice VR ZC.length VS] rfl zb2 ?_; (with_reducible refine (XJ.calls k _ _ Xm _ _ ZC true _ ?side1 ?side2 ?side3 ?side4 A7.out).mono ?_); (case side1 => exact zb8); (case side2 => exact JI.out); (case side3 => exact zb19); (case side4 => exact Ng.out); rintro e w36 ⟨rfl, hb⟩; refine ⟨_, rfl, ?_⟩; replace Yy := bb Yy (fun h => by (with_reducible repeat (first | apply bn | apply bd | apply ba)); exact h) hb; replace Yz := bb Yz (fun h => by (with_reducible repeat (first | apply bn | apply bd | apply ba)); exact h) hb; replace HB := az (Xc zb1 hb); (try clear hb); (try clear hb2); (try clear hk); (try clear hi); obtain ⟨Xqa, Xqb, Xqc, Xqd, Xqe⟩ := cz5 Yy; obtain ⟨Xqf, Xqg, Xqh, Xqi, Xqj⟩ := fz5 Yy; obtain ⟨Xqk, Xql, Xqm, X0J, X0K⟩ := cz5 Yz; obtain ⟨Xqn, Xqo, Xqp, X0L⟩ := fz4 Yz; have X0M := Xe Yz.out 4))
      go_ret
      exact ⟨zb4, zb1⟩
    ·rw [if_neg c9] at H
     have c9b0 : (Yu == YU) = false := beq_eq_false_iff_ne.mpr c9; have c9b1 : (Yu != YU) = true := bne_iff_ne.mpr c9; obtain rfl := Option.some.inj H
     go_enter Tryz.func12, Tryz.ntmps12
     go_wp2_with (first | ((with_reducible refine Xp (N := 2) rfl ?_); refine Xn ?hg (N := 2) ?hd (cs := #[.slice Je Yc.length Ja, .slice J9 XM.length Jy, .slice Yg Xm.length Yh, .int .i64 Yu, .bool Yt]) (t := 31) ?hr ?_; (case hd => rfl); (case hg => rfl); (case hr => exact zb7); intro Np hg w39 hbox hb; have Yy := az (hbox); have Nq := az ((zb95 : w.heap.size ≤ Np)); have Xcm := Nq; replace HB := az (Xc zb0 hb); clear hb hbox hg) | ((with_reducible refine Xp (N := 3) rfl ?_); refine Xn ?hg (N := 3) ?hd (cs := #[.slice P5 FM.length P6, .slice K3 FN.length K4, .slice VR ZC.length VS, .int .i64 YU, .bool ZI]) (t := 31) ?hr ?_; (case hd => rfl); (case hg => rfl); (case hr => exact zb7); intro Nr hg w40 hbox hb; have Yz := az (hbox); have Ns := az ((zb97 : w.heap.size ≤ Nr)); have Xcn := Ns; replace HB := az (Xc zb1 hb); obtain ⟨Vk, Vl⟩ := nb Yy hg (fun h => by (with_reducible repeat (first | apply bn | apply bd | apply ba)); exact h); replace Yy := bb Yy (fun h => by (with_reducible repeat (first | apply bn | apply bd | apply ba)); exact h) hb; clear hb hbox hg; have XvY := Vk.out; have XvZ := Vl.out; obtain ⟨Xik, Xil, Xim, Xqq, Xqr⟩ := cz5 Yy; obtain ⟨Xin, Xio, Xip, Xqs, Xqt⟩ := fz5 Yy; obtain ⟨X0N, X0O, X0P, X0Q, X0R⟩ := cz5 Yz; obtain ⟨X0S, X0T, X0U, X0V⟩ := fz4 Yz; have X0W := Xe Yz.out 4) | ((with_reducible refine Xo (f := 23) rfl ?_); refine Yx (some 9) rfl rfl Tryz.func23 zb6 rfl #[.slice Je Yc.length Ja, .slice P5 FM.length P6] rfl zb2 ?_; (with_reducible refine (Xw.calls k _ _ Yc _ _ FM true _ ?side1 ?side2 ?side3 ?side4 A3.out).mono ?_); (case side1 => exact zb14); (case side2 => exact ML.out); (case side3 => exact zb30); (case side4 => exact OO.out); rintro e w44 ⟨rfl, hb⟩; refine ⟨_, rfl, ?_⟩; replace Yy := bb Yy (fun h => by (with_reducible repeat (first | apply bn | apply bd | apply ba)); exact h) hb; replace Yz := bb Yz (fun h => by (with_reducible repeat (first | apply bn | apply bd | apply ba)); exact h) hb; replace HB := az (Xc zb1 hb); (try clear hb); (try clear hb2); (try clear hk); (try clear hi); obtain ⟨Xhz, Xh0, Xh1, Xh2, Xh3⟩ := cz5 Yy; obtain ⟨Xh4, Xh5, Xh6, Xh7, Xh8⟩ := fz5 Yy; obtain ⟨X0X, X0Y, X0Z, X1a, X1b⟩ := cz5 Yz; obtain ⟨X1c, X1d, X1e, X1f⟩ := fz4 Yz; have X1g := Xe Yz.out 4) | ((with_reducible refine Xo (f := 23) rfl ?_); refine Yx (some 15) rfl rfl Tryz.func23 zb6 rfl #[.slice J9 XM.length Jy, .slice K3 FN.length K4] rfl zb2 ?_; (with_reducible refine (Xw.calls k _ _ XM _ _ FN true _ ?side1 ?side2 ?side3 ?side4 A5.out).mono ?_); (case side1 => exact zb20); (case side2 => exact SH.out); (case side3 => exact zb35); (case side4 => exact Xcl.out); rintro e w47 ⟨rfl, hb⟩; refine ⟨_, rfl, ?_⟩; replace Yy := bb Yy (fun h => by (with_reducible repeat (first | apply bn | apply bd | apply ba)); exact h) hb; replace Yz := bb Yz (fun h => by (with_reducible repeat (first | apply bn | apply bd | apply ba)); exact h) hb; replace HB := az (Xc zb1 hb); (try clear hb); (try clear hb2); (try clear hk); (try clear hi); obtain ⟨X1h, X1i, X1j, X1k, X1l⟩ := cz5 Yy; obtain ⟨X1m, X1n, X1o, X1p, X1q⟩ := fz5 Yy; obtain ⟨XoY, XoZ, Xpa, Xpb, Xpc⟩ := cz5 Yz; obtain ⟨Xpd, Xpe, Xpf, Xpg⟩ := fz4 Yz; have Xph := Xe Yz.out 4) | ((with_reducible refine Xo (f := 36) rfl ?_); refine Yx (some 21) rfl rfl Tryz.func36 zb6 rfl #[.slice Yg Xm.length Yh, .slice VR ZC.length VS] rfl zb2 ?_; (with_reducible refine (XJ.calls k _ _ Xm _ _ ZC true _ ?side1 ?side2 ?side3 ?side4 A7.out).mono ?_); (case side1 => exact zb8); (case side2 => exact JI.out); (case side3 => exact zb19); (case side4 => exact Ng.out); rintro e w50 ⟨rfl, hb⟩; refine ⟨_, rfl, ?_⟩; replace Yy := bb Yy (fun h => by (with_reducible repeat (first | apply bn | apply bd | apply ba)); exact h) hb; replace Yz := bb Yz (fun h => by (with_reducible repeat (first | apply bn | apply bd | apply ba)); exact h) hb; replace HB := az (Xc zb1 hb); (try clear hb); (try clear hb2); (try clear hk); (try clear hi); obtain ⟨X1r, X1s, X1t, X1u, X1v⟩ := cz5 Yy; obtain ⟨X1w, X1x, X1y, X1z, X10⟩ := fz5 Yy; obtain ⟨X11, X12, X13, X14, X15⟩ := cz5 Yz; obtain ⟨X16, X17, X18, X19⟩ := fz4 Yz; have X1A := Xe Yz.out 4))
     go_ret
     exact ⟨zb4, zb1⟩
   ·replace c8 := Bool.eq_false_iff.mpr c8
    subst c8
    have H1 : (some false) = some r := by rw [if_neg (show ¬ (false = true) by decide)] at H; exact H
    clear H; have H := H1; clear H1; obtain rfl := Option.some.inj H
    go_enter Tryz.func12, Tryz.ntmps12
    go_wp2_with (first | ((with_reducible refine Xp (N := 2) rfl ?_); refine Xn ?hg (N := 2) ?hd (cs := #[.slice Je Yc.length Ja, .slice J9 XM.length Jy, .slice Yg Xm.length Yh, .int .i64 Yu, .bool Yt]) (t := 31) ?hr ?_; (case hd => rfl); (case hg => rfl); (case hr => exact zb7); intro Np hg w53 hbox hb; have Yy := az (hbox); have Nq := az ((zb95 : w.heap.size ≤ Np)); have Xcm := Nq; replace HB := az (Xc zb0 hb); clear hb hbox hg) | ((with_reducible refine Xp (N := 3) rfl ?_); refine Xn ?hg (N := 3) ?hd (cs := #[.slice P5 FM.length P6, .slice K3 FN.length K4, .slice VR ZC.length VS, .int .i64 YU, .bool ZI]) (t := 31) ?hr ?_; (case hd => rfl); (case hg => rfl); (case hr => exact zb7); intro Nr hg w54 hbox hb; have Yz := az (hbox); have Ns := az ((zb97 : w.heap.size ≤ Nr)); have Xcn := Ns; replace HB := az (Xc zb1 hb); obtain ⟨Vk, Vl⟩ := nb Yy hg (fun h => by (with_reducible repeat (first | apply bn | apply bd | apply ba)); exact h); replace Yy := bb Yy (fun h => by (with_reducible repeat (first | apply bn | apply bd | apply ba)); exact h) hb; clear hb hbox hg; have hnb55 := Vk.out; have hnc55 := Vl.out; obtain ⟨X1B, X1C, X1D, X1E, X1F⟩ := cz5 Yy; obtain ⟨X1G, X1H, X1I, X1J, X1K⟩ := fz5 Yy; obtain ⟨X1L, X1M, X1N, X1O, X1P⟩ := cz5 Yz; obtain ⟨X1Q, X1R, X1S, X1T⟩ := fz4 Yz; have X1U := Xe Yz.out 4) | ((with_reducible refine Xo (f := 23) rfl ?_); refine Yx (some 9) rfl rfl Tryz.func23 zb6 rfl #[.slice Je Yc.length Ja, .slice P5 FM.length P6] rfl zb2 ?_; (with_reducible refine (Xw.calls k _ _ Yc _ _ FM true _ ?side1 ?side2 ?side3 ?side4 A3.out).mono ?_); (case side1 => exact zb14); (case side2 => exact ML.out); (case side3 => exact zb30); (case side4 => exact OO.out); rintro e w58 ⟨rfl, hb⟩; refine ⟨_, rfl, ?_⟩; replace Yy := bb Yy (fun h => by (with_reducible repeat (first | apply bn | apply bd | apply ba)); exact h) hb; replace Yz := bb Yz (fun h => by (with_reducible repeat (first | apply bn | apply bd | apply ba)); exact h) hb; replace HB := az (Xc zb1 hb); (try clear hb); (try clear hb2); (try clear hk); (try clear hi); obtain ⟨X1V, X1W, X1X, X1Y, X1Z⟩ := cz5 Yy; obtain ⟨X2a, X2b, X2c, X2d, X2e⟩ := fz5 Yy; obtain ⟨X2f, X2g, X2h, X2i, X2j⟩ := cz5 Yz; obtain ⟨X2k, X2l, X2m, X2n⟩ := fz4 Yz; have X2o := Xe Yz.out 4) | ((with_reducible refine Xo (f := 23) rfl ?_); refine Yx (some 15) rfl rfl Tryz.func23 zb6 rfl #[.slice J9 XM.length Jy, .slice K3 FN.length K4] rfl zb2 ?_; (with_reducible refine (Xw.calls k _ _ XM _ _ FN true _ ?side1 ?side2 ?side3 ?side4 A5.out).mono ?_); (case side1 => exact zb20); (case side2 => exact SH.out); (case side3 => exact zb35); (case side4 => exact Xcl.out); rintro e w61 ⟨rfl, hb⟩; refine ⟨_, rfl, ?_⟩; replace Yy := bb Yy (fun h => by (with_reducible repeat (first | apply bn | apply bd | apply ba)); exact h) hb; replace Yz := bb Yz (fun h => by (with_reducible repeat (first | apply bn | apply bd | apply ba)); exact h) hb; replace HB := az (Xc zb1 hb); (try clear hb); (try clear hb2); (try clear hk); (try clear hi); obtain ⟨X2p, X2q, X2r, X2s, X2t⟩ := cz5 Yy; obtain ⟨X2u, X2v, X2w, X2x, X2y⟩ := fz5 Yy; obtain ⟨X2z, X20, X21, X22, X23⟩ := cz5 Yz; obtain ⟨X24, X25, X26, X27⟩ := fz4 Yz; have X28 := Xe Yz.out 4) | ((with_reducible refine Xo (f := 36) rfl ?_); refine Yx (some 21) rfl rfl Tryz.func36 zb6 rfl #[.slice Yg Xm.length Yh, .slice VR ZC.length VS] rfl zb2 ?_; (with_reducible refine (XJ.calls k _ _ Xm _ _ ZC false _ ?side1 ?side2 ?side3 ?side4 A7.out).mono ?_); (case side1 => exact zb8); (case side2 => exact JI.out); (case side3 => exact zb19); (case side4 => exact Ng.out); rintro e w64 ⟨rfl, hb⟩; refine ⟨_, rfl, ?_⟩; replace Yy := bb Yy (fun h => by (with_reducible repeat (first | apply bn | apply bd | apply ba)); exact h) hb; replace Yz := bb Yz (fun h => by (with_reducible repeat (first | apply bn | apply bd | apply ba)); exact h) hb; replace HB := az (Xc zb1 hb); (try clear hb); (try clear hb2); (try clear hk); (try clear hi)))
    go_ret
    exact ⟨zb4, zb1⟩
  ·replace c6 := Bool.eq_false_iff.mpr c6
   subst c6
   have H1 : (some false) = some r := by rw [if_neg (show ¬ (false = true) by decide)] at H; exact H
   clear H; have H := H1; clear H1; obtain rfl := Option.some.inj H
   go_enter Tryz.func12, Tryz.ntmps12
   go_wp2_with (first | ((with_reducible refine Xp (N := 2) rfl ?_); refine Xn ?hg (N := 2) ?hd (cs := #[.slice Je Yc.length Ja, .slice J9 XM.length Jy, .slice Yg Xm.length Yh, .int .i64 Yu, .bool Yt]) (t := 31) ?hr ?_; (case hd => rfl); (case hg => rfl); (case hr => exact zb7); intro Np hg w65 hbox hb; have Yy := az (hbox); have Nq := az ((zb95 : w.heap.size ≤ Np)); have Xcm := Nq; replace HB := az (Xc zb0 hb); clear hb hbox hg) | ((with_reducible refine Xp (N := 3) rfl ?_); refine Xn ?hg (N := 3) ?hd (cs := #[.slice P5 FM.length P6, .slice K3 FN.length K4, .slice VR ZC.length VS, .int .i64 YU, .bool ZI]) (t := 31) ?hr ?_; (case hd => rfl); (case hg => rfl); (case hr => exact zb7); intro Nr hg w66 hbox hb; have Yz := az (hbox); have Ns := az ((zb97 : w.heap.size ≤ Nr)); have Xcn := Ns; replace HB := az (Xc zb1 hb); obtain ⟨Vk, Vl⟩ := nb Yy hg (fun h => by (with_reducible repeat (first | apply bn | apply bd | apply ba)); exact h); replace Yy := bb Yy (fun h => by (with_reducible repeat (first | apply bn | apply bd | apply ba)); exact h) hb; clear hb hbox hg; have hnb67 := Vk.out; have hnc67 := Vl.out; obtain ⟨X29, X2A, X2B, X2C, X2D⟩ := cz5 Yy; obtain ⟨X2E, X2F, X2G, X2H, X2I⟩ := fz5 Yy; obtain ⟨X2J, X2K, X2L, X2M, X2N⟩ := cz5 Yz; obtain ⟨X2O, X2P, X2Q, X2R⟩ := fz4 Yz; have X2S := Xe Yz.out 4) | ((with_reducible refine Xo (f := 23) rfl ?_); refine Yx (some 9) rfl rfl Tryz.func23 zb6 rfl #[.slice Je Yc.length Ja, .slice P5 FM.length P6] rfl zb2 ?_; (with_reducible refine (Xw.calls k _ _ Yc _ _ FM true _ ?side1 ?side2 ?side3 ?side4 A3.out).mono ?_); (case side1 => exact zb14); (case side2 => exact ML.out); (case side3 => exact zb30); (case side4 => exact OO.out); rintro e w70 ⟨rfl, hb⟩; refine ⟨_, rfl, ?_⟩; replace Yy := bb Yy (fun h => by (with_reducible repeat (first | apply bn | apply bd | apply ba)); exact h) hb; replace Yz := bb Yz (fun h => by (with_reducible repeat (first | apply bn | apply bd | apply ba)); exact h) hb; replace HB := az (Xc zb1 hb); (try clear hb); (try clear hb2); (try clear hk); (try clear hi); obtain ⟨X2T, X2U, X2V, X2W, X2X⟩ := cz5 Yy; obtain ⟨X2Y, X2Z, X3a, X3b, X3c⟩ := fz5 Yy; obtain ⟨X3d, X3e, X3f, X3g, X3h⟩ := cz5 Yz; obtain ⟨X3i, X3j, X3k, X3l⟩ := fz4 Yz; have X3m := Xe Yz.out 4) | ((with_reducible refine Xo (f := 23) rfl ?_); refine Yx (some 15) rfl rfl Tryz.func23 zb6 rfl #[.slice J9 XM.length Jy, .slice K3 FN.length K4] rfl zb2 ?_; (with_reducible refine (Xw.calls k _ _ XM _ _ FN false _ ?side1 ?side2 ?side3 ?side4 A5.out).mono ?_); (case side1 => exact zb20); (case side2 => exact SH.out); (case side3 => exact zb35); (case side4 => exact Xcl.out); rintro e w73 ⟨rfl, hb⟩; refine ⟨_, rfl, ?_⟩; replace Yy := bb Yy (fun h => by (with_reducible repeat (first | apply bn | apply bd | apply ba)); exact h) hb; replace Yz := bb Yz (fun h => by (with_reducible repeat (first | apply bn | apply bd | apply ba)); exact h) hb; replace HB := az (Xc zb1 hb); (try clear hb); (try clear hb2); (try clear hk); (try clear hi)))
   go_ret
   exact ⟨zb4, zb1⟩
 ·replace c4 := Bool.eq_false_iff.mpr c4
  subst c4
  have H1 : (some false) = some r := by rw [if_neg (show ¬ (false = true) by decide)] at H; exact H
  clear H; have H := H1; clear H1; obtain rfl := Option.some.inj H
  go_enter Tryz.func12, Tryz.ntmps12
  go_wp2_with (first | ((with_reducible refine Xp (N := 2) rfl ?_); refine Xn ?hg (N := 2) ?hd (cs := #[.slice Je Yc.length Ja, .slice J9 XM.length Jy, .slice Yg Xm.length Yh, .int .i64 Yu, .bool Yt]) (t := 31) ?hr ?_; (case hd => rfl); (case hg => rfl); (case hr => exact zb7); intro Np hg w74 hbox hb; have Yy := az (hbox); have Nq := az ((zb95 : w.heap.size ≤ Np)); have Xcm := Nq; replace HB := az (Xc zb0 hb); clear hb hbox hg) | ((with_reducible refine Xp (N := 3) rfl ?_); refine Xn ?hg (N := 3) ?hd (cs := #[.slice P5 FM.length P6, .slice K3 FN.length K4, .slice VR ZC.length VS, .int .i64 YU, .bool ZI]) (t := 31) ?hr ?_; (case hd => rfl); (case hg => rfl); (case hr => exact zb7); intro Nr hg w75 hbox hb; have Yz := az (hbox); have Ns := az ((zb97 : w.heap.size ≤ Nr)); have Xcn := Ns; replace HB := az (Xc zb1 hb); obtain ⟨Vk, Vl⟩ := nb Yy hg (fun h => by (with_reducible repeat (first | apply bn | apply bd | apply ba)); exact h); replace Yy := bb Yy (fun h => by (with_reducible repeat (first | apply bn | apply bd | apply ba)); exact h) hb; clear hb hbox hg; have hnb76 := Vk.out; have hnc76 := Vl.out; obtain ⟨X3n, X3o, X3p, X3q, X3r⟩ := cz5 Yy; obtain ⟨X3s, X3t, X3u, X3v, X3w⟩ := fz5 Yy; obtain ⟨X3x, X3y, X3z, X30, X31⟩ := cz5 Yz; obtain ⟨X32, X33, X34, X35⟩ := fz4 Yz; have X36 := Xe Yz.out 4) | ((with_reducible refine Xo (f := 23) rfl ?_); refine Yx (some 9) rfl rfl Tryz.func23 zb6 rfl #[.slice Je Yc.length Ja, .slice P5 FM.length P6] rfl zb2 ?_; (with_reducible refine (Xw.calls k _ _ Yc _ _ FM false _ ?side1 ?side2 ?side3 ?side4 A3.out).mono ?_); (case side1 => exact zb14); (case side2 => exact ML.out); (case side3 => exact zb30); (case side4 => exact OO.out); rintro e w79 ⟨rfl, hb⟩; refine ⟨_, rfl, ?_⟩; replace Yy := bb Yy (fun h => by (with_reducible repeat (first | apply bn | apply bd | apply ba)); exact h) hb; replace Yz := bb Yz (fun h => by (with_reducible repeat (first | apply bn | apply bd | apply ba)); exact h) hb; replace HB := az (Xc zb1 hb); (try clear hb); (try clear hb2); (try clear hk); (try clear hi)))
  go_ret
  exact ⟨zb4, zb1⟩
end Go.Proofs.YtphnphmbfogmlaaGreat.Pr
