import Derived.Test.YtphnphmbfogmlaaGreatQEByq
import Derived.Test.YtphnphmbfogmlaaGreatQEPrK
import Derived.Test.YtphnphmbfogmlaaGreatQESx
import Derived.Test.YtphnphmbfogmlaaGreatQEPrInts
namespace Go.Proofs.YtphnphmbfogmlaaGreat.Pr
open Go.RowKit Go.PW Go.PL Go.PM
attribute [local go_sem] YO YP Zm Zn Yv Yw YQ YS
set_option linter.unusedVariables false
set_option linter.unusedSimpArgs false
def Yb.l0 : Nat → List Int → Int → Int → Int → Option (Int)
 | 0, _, _, _, _ => none
 | k + 1, x0, x1, x7, x8 => if x8 < x7 then (if 0 ≤ x8 then (if x8 < (x0.length : Int) then (if x1 = (rd x0 x8) then (some x8) else (Yb.l0 k x0 x1 x7 (wrap64 (x8 + 1)))) else (none)) else (none)) else (some (-1))
def Yb.f (k : Nat) (l0 : List Int) (a1 : Int) : Option (Int) := Yb.l0 k l0 a1 (l0.length : Int) 0
set_option maxHeartbeats 8000000 in
set_option maxRecDepth 100000 in
theorem Yb.calls (k : Nat) (A0 : Option Addr) (c0 : Nat) (l0 : List Int) (a1 : Int) (r : Int) (w : World) (hr0 : Kd.C (Kd.int .i64) w A0 l0.length l0) (hc0 : l0.length ≤ c0) (h : Yb.f k l0 a1 = some r) :
 Calls Tryz.prog 90 #[.slice A0 l0.length c0, .int .i64 a1] w fun e w' => e = .returned (.int .i64 r) ∧ Jc w w' := by
 have HR0 := az hr0; have HC0 := az hc0; clear hr0 hc0; have H : (Yb.l0 k l0 a1 (l0.length : Int) 0) = some r := h; clear h; have H' := az H; clear H
 go_enter Tryz.func90, Tryz.ntmps90
 go_wp2
 go_loopg [8] k (fun kq v8 w' => ∃ (J6 : Int), v8 = .int .i64 J6 ∧ Aside0 (Yb.l0 kq l0 a1 (l0.length : Int) J6 = some r) ∧ Aside0 (kq ≤ k) ∧ Jc w w')
 case atStart => exact ⟨(0), zb6, H', ⟨Nat.le_refl _⟩, zb11⟩
 case round =>
  clear H';(try clear p2)
  obtain ⟨J6, rfl, HA, HK1, ⟨m1, rfl⟩⟩ := hrel
  cases gk with
  | zero => exact absurd HA.out (by simp [Yb.l0])
  | succ k1 =>
   have H := HA.out; clear HA; simp only [Yb.l0] at H
   by_cases c3 : J6 < (l0.length : Int)
   ·rw [if_pos c3] at H
    have c3b0 : decide (J6 < (l0.length : Int)) = true := decide_eq_true c3; clear c3
    by_cases c4 : 0 ≤ J6
    ·rw [if_pos c4] at H
     have c4b0 : decide (0 ≤ J6) = true := decide_eq_true c4; clear c4
     by_cases c5 : J6 < (l0.length : Int)
     ·rw [if_pos c5] at H
      have c5b0 : decide (J6 < (l0.length : Int)) = true := decide_eq_true c5; clear c5
      by_cases c6 : a1 = (rd l0 J6)
      ·rw [if_pos c6] at H
       have c6b0 : (a1 == (rd l0 J6)) = true := beq_iff_eq.mpr c6; have c6b1 : (a1 != (rd l0 J6)) = false := bne_eq_false_iff_eq.mpr c6; clear c6; obtain rfl := Option.some.inj H; have Xir : 0 ≤ (J6 : Int) := of_decide_eq_true zb3; have Xis : J6 < (l0.length : Int) := of_decide_eq_true zb3; obtain ⟨X0J, Xyv, Xvf⟩ := Kd.Jh HR0.out J6 Xir Xis
       cases Xyv
       replace Xir := eq_true Xir; replace Xis := eq_true Xis
       go_wp2
       go_ret
       exact ⟨zb6, zb11⟩
      ·rw [if_neg c6] at H
       have c6b0 : (a1 == (rd l0 J6)) = false := beq_eq_false_iff_ne.mpr c6; have c6b1 : (a1 != (rd l0 J6)) = true := bne_iff_ne.mpr c6; have H' := az H; clear H; have Xir : 0 ≤ (J6 : Int) := of_decide_eq_true zb3; have Xis : J6 < (l0.length : Int) := of_decide_eq_true zb3; obtain ⟨X0J, Xyv, Xvf⟩ := Kd.Jh HR0.out J6 Xir Xis
       cases Xyv
       replace Xir := eq_true Xir; replace Xis := eq_true Xis
       go_wp2
       go_roundg k1
       case measure => have := HK1.out; omega
       case rel => exact ⟨(wrap64 (J6 + 1)), zb6, H', ⟨zb37⟩, zb11⟩
     ·rw [if_neg c5] at H
      exact absurd H (by simp)
    ·rw [if_neg c4] at H
     exact absurd H (by simp)
   ·rw [if_neg c3] at H
    have c3b0 : decide (J6 < (l0.length : Int)) = false := decide_eq_false c3; clear c3; obtain rfl := Option.some.inj H
    go_wp2
    go_ret
    exact ⟨zb6, zb11⟩
def ZQ.f (k : Nat) (l0 : List Int) (a1 : Int) : Option (Bool) := (Yb.f k l0 a1).bind fun Xow => (some (decide (Xow ≥ 0)))
set_option maxHeartbeats 8000000 in
set_option maxRecDepth 100000 in
theorem ZQ.calls (k : Nat) (A0 : Option Addr) (c0 : Nat) (l0 : List Int) (a1 : Int) (r : Bool) (w : World) (hr0 : Kd.C (Kd.int .i64) w A0 l0.length l0) (hc0 : l0.length ≤ c0) (h : ZQ.f k l0 a1 = some r) :
 Calls Tryz.prog 60 #[.slice A0 l0.length c0, .int .i64 a1] w fun e w' => e = .returned (.bool r) ∧ Jc w w' := by
 have HR0 := az hr0; have HC0 := az hc0; clear hr0 hc0; have H : ((Yb.f k l0 a1).bind fun Xow => (some (decide (Xow ≥ 0)))) = some r := h; clear h; replace H := Option.bind_eq_some_iff.mp H; obtain ⟨Xow, A30, H⟩ := H; replace H : (some (decide (Xow ≥ 0))) = some r := H; have A3 := az A30; clear A30; obtain rfl := Option.some.inj H
 go_enter Tryz.func60, Tryz.ntmps60
 go_wp2_with (first | ((with_reducible refine Xi (f := 90) rfl ?_); refine XI (some 7) rfl rfl Tryz.func90 zb9 rfl #[.slice A0 l0.length c0, .int .i64 a1] rfl zb2 ?_; (with_reducible refine (Yb.calls k _ _ l0 a1 Xow _ ?side1 ?side2 A3.out).mono ?_); (case side1 => exact zb16); (case side2 => exact HC0.out); rintro e w' ⟨rfl, ⟨nd, rfl⟩⟩; refine ⟨_, rfl, ?_⟩))
 go_ret
 exact ⟨zb6, zb11⟩
def Ya.l0 : Nat → List Int → List Int → Int → Int → Option (Bool)
 | 0, _, _, _, _ => none
 | k + 1, x0, x1, x12, x13 => if x13 < x12 then (if 0 ≤ x13 then (if x13 < (x0.length : Int) then (if x13 < (x1.length : Int) then (if (rd x0 x13) = (rd x1 x13) then (Ya.l0 k x0 x1 x12 (wrap64 (x13 + 1))) else (some false)) else (none)) else (none)) else (none)) else (some true)
def Ya.f (k : Nat) (l0 : List Int) (l1 : List Int) : Option (Bool) := if (l0.length : Int) = (l1.length : Int) then (Ya.l0 k l0 l1 (l0.length : Int) 0) else (some false)
set_option maxHeartbeats 8000000 in
set_option maxRecDepth 100000 in
theorem Ya.calls (k : Nat) (A0 : Option Addr) (c0 : Nat) (l0 : List Int) (A1 : Option Addr) (c1 : Nat) (l1 : List Int) (r : Bool) (w : World) (hr0 : Kd.C (Kd.int .i64) w A0 l0.length l0) (hc0 : l0.length ≤ c0) (hr1 : Kd.C (Kd.int .i64) w A1 l1.length l1) (hc1 : l1.length ≤ c1) (h : Ya.f k l0 l1 = some r) :
 Calls Tryz.prog 84 #[.slice A0 l0.length c0, .slice A1 l1.length c1] w fun e w' => e = .returned (.bool r) ∧ Jc w w' := by
 have HR0 := az hr0; have HC0 := az hc0; clear hr0 hc0; have HR1 := az hr1; have HC1 := az hc1; clear hr1 hc1; have H : (if (l0.length : Int) = (l1.length : Int) then (Ya.l0 k l0 l1 (l0.length : Int) 0) else (some false)) = some r := h; clear h
 by_cases c3 : (l0.length : Int) = (l1.length : Int)
 ·rw [if_pos c3] at H
  have c3b0 : ((l0.length : Int) == (l1.length : Int)) = true := beq_iff_eq.mpr c3; have c3b1 : ((l0.length : Int) != (l1.length : Int)) = false := bne_eq_false_iff_eq.mpr c3
  have c3b2 : (l0.length == l1.length) = true := by first | simpa using c3 | (simp at c3 ⊢; omega)
  clear c3; have H' := az H; clear H
  go_enter Tryz.func84, Tryz.ntmps84
  go_wp2
  repeat (go_quiet (fail); try go_wp2)
  go_loopg [13] k (fun kq v13 w' => ∃ (JJ : Int), v13 = .int .i64 JJ ∧ Aside0 (Ya.l0 kq l0 l1 (l0.length : Int) JJ = some r) ∧ Aside0 (kq ≤ k) ∧ Jc w w')
  case atStart => exact ⟨(0), zb6, H', ⟨Nat.le_refl _⟩, zb11⟩
  case round =>
   clear H';(try clear c1);(try clear p2);(try clear c3);(try clear c3b0);(try clear c3b1);(try clear c3b2)
   obtain ⟨JJ, rfl, HA, HK1, ⟨m1, rfl⟩⟩ := hrel
   cases gk with
   | zero => exact absurd HA.out (by simp [Ya.l0])
   | succ k1 =>
    have H := HA.out; clear HA; simp only [Ya.l0] at H
    by_cases c4 : JJ < (l0.length : Int)
    ·rw [if_pos c4] at H
     have c4b0 : decide (JJ < (l0.length : Int)) = true := decide_eq_true c4; clear c4
     by_cases c5 : 0 ≤ JJ
     ·rw [if_pos c5] at H
      have c5b0 : decide (0 ≤ JJ) = true := decide_eq_true c5; clear c5
      by_cases c6 : JJ < (l0.length : Int)
      ·rw [if_pos c6] at H
       have c6b0 : decide (JJ < (l0.length : Int)) = true := decide_eq_true c6; clear c6
       by_cases c7 : JJ < (l1.length : Int)
       ·rw [if_pos c7] at H
        have c7b0 : decide (JJ < (l1.length : Int)) = true := decide_eq_true c7; clear c7
        by_cases c8 : (rd l0 JJ) = (rd l1 JJ)
        ·rw [if_pos c8] at H
         have c8b0 : ((rd l0 JJ) == (rd l1 JJ)) = true := beq_iff_eq.mpr c8; have c8b1 : ((rd l0 JJ) != (rd l1 JJ)) = false := bne_eq_false_iff_eq.mpr c8; clear c8; have H' := az H; clear H; have Xit : 0 ≤ (JJ : Int) := of_decide_eq_true zb3; have Xiu : JJ < (l0.length : Int) := of_decide_eq_true zb3; obtain ⟨X0K, Xyw, Xvg⟩ := Kd.Jh HR0.out JJ Xit Xiu
         cases Xyw
         replace Xit := eq_true Xit; replace Xiu := eq_true Xiu; have Xiv : 0 ≤ (JJ : Int) := of_decide_eq_true zb3; have Xiw : JJ < (l1.length : Int) := of_decide_eq_true zb3; obtain ⟨X0L, Xyx, Xvh⟩ := Kd.Jh HR1.out JJ Xiv Xiw
         cases Xyx
         replace Xiv := eq_true Xiv; replace Xiw := eq_true Xiw
         go_wp2
         repeat (go_quiet (fail); try go_wp2)
         go_roundg k1
         case measure => have := HK1.out; omega
         case rel => exact ⟨(wrap64 (JJ + 1)), zb6, H', ⟨zb37⟩, zb11⟩
        ·rw [if_neg c8] at H
         have c8b0 : ((rd l0 JJ) == (rd l1 JJ)) = false := beq_eq_false_iff_ne.mpr c8; have c8b1 : ((rd l0 JJ) != (rd l1 JJ)) = true := bne_iff_ne.mpr c8; obtain rfl := Option.some.inj H; have Xit : 0 ≤ (JJ : Int) := of_decide_eq_true zb3; have Xiu : JJ < (l0.length : Int) := of_decide_eq_true zb3; obtain ⟨X0K, Xyw, Xvg⟩ := Kd.Jh HR0.out JJ Xit Xiu
         cases Xyw
         replace Xit := eq_true Xit; replace Xiu := eq_true Xiu; have Xiv : 0 ≤ (JJ : Int) := of_decide_eq_true zb3; have Xiw : JJ < (l1.length : Int) := of_decide_eq_true zb3; obtain ⟨X0L, Xyx, Xvh⟩ := Kd.Jh HR1.out JJ Xiv Xiw
         cases Xyx
         replace Xiv := eq_true Xiv; replace Xiw := eq_true Xiw
         go_wp2
         repeat (go_quiet (fail); try go_wp2)
         go_ret
         exact ⟨zb6, zb11⟩
       ·rw [if_neg c7] at H
        exact absurd H (by simp)
      ·rw [if_neg c6] at H
       exact absurd H (by simp)
     ·rw [if_neg c5] at H
      exact absurd H (by simp)
    ·rw [if_neg c4] at H
     have c4b0 : decide (JJ < (l0.length : Int)) = false := decide_eq_false c4; clear c4; obtain rfl := Option.some.inj H
     go_wp2
     repeat (go_quiet (fail); try go_wp2)
     go_ret
     exact ⟨zb6, zb11⟩
 ·rw [if_neg c3] at H
  have c3b0 : ((l0.length : Int) == (l1.length : Int)) = false := beq_eq_false_iff_ne.mpr c3; have c3b1 : ((l0.length : Int) != (l1.length : Int)) = true := bne_iff_ne.mpr c3
  have c3b2 : (l0.length == l1.length) = false := by first | simpa using c3 | (simp at c3 ⊢; omega)
  obtain rfl := Option.some.inj H
  go_enter Tryz.func84, Tryz.ntmps84
  go_wp2
  repeat (go_quiet (fail); try go_wp2)
  go_ret
  exact ⟨zb6, zb11⟩
def JK.f (k : Nat) (X4 : Int) (XB : Int) (Xe : List Int) (Zu : Int) (Z5 : Int) (ZT : List Int) : Option (Bool) := if X4 = Zu then (if XB = Z5 then ((Ya.f k Xe ZT).bind fun Xox => (some Xox)) else (some false)) else (some false)
set_option maxHeartbeats 8000000 in
set_option maxRecDepth 100000 in
theorem JK.calls (k : Nat) (X4 : Int) (XB : Int) (XE : Option Addr) (XF : Nat) (Xe : List Int) (Zu : Int) (Z5 : Int) (Dr : Option Addr) (Dt : Nat) (ZT : List Int) (r : Bool) (w : World) (hr0_2 : Kd.C (Kd.int .i64) w XE Xe.length Xe) (hc0_2 : Xe.length ≤ XF) (hr1_2 : Kd.C (Kd.int .i64) w Dr ZT.length ZT) (hc1_2 : ZT.length ≤ Dt) (h : JK.f k X4 XB Xe Zu Z5 ZT = some r) :
 Calls Tryz.prog 54 #[.agg #[.int .i64 X4, .int .i64 XB, .slice XE Xe.length XF], .agg #[.int .i64 Zu, .int .i64 Z5, .slice Dr ZT.length Dt]] w fun e w' => e = .returned (.bool r) ∧ Below w.heap.size w w' := by
 have hu56 := Tryz.underlying56; have VU := az hr0_2; have DY := az hc0_2; clear hr0_2 hc0_2; have Xjv := az hr1_2; have Ps := az hc1_2; clear hr1_2 hc1_2; have HB := az (Below.refl w.heap.size w); have H : (if X4 = Zu then (if XB = Z5 then ((Ya.f k Xe ZT).bind fun Xox => (some Xox)) else (some false)) else (some false)) = some r := h; clear h
 by_cases c3 : X4 = Zu
 ·rw [if_pos c3] at H
  have c3b0 : (X4 == Zu) = true := beq_iff_eq.mpr c3; have c3b1 : (X4 != Zu) = false := bne_eq_false_iff_eq.mpr c3; clear c3
  by_cases c4 : XB = Z5
  ·rw [if_pos c4] at H
   have c4b0 : (XB == Z5) = true := beq_iff_eq.mpr c4; have c4b1 : (XB != Z5) = false := bne_eq_false_iff_eq.mpr c4; clear c4; replace H := Option.bind_eq_some_iff.mp H; obtain ⟨Xox, A50, H⟩ := H; replace H : (some Xox) = some r := H; have A5 := az A50; clear A50; obtain rfl := Option.some.inj H
   go_enter Tryz.func54, Tryz.ntmps54
   go_wp2_with (first | ((with_reducible refine Xn (N := 2) rfl ?_); refine Xl ?hg (N := 2) ?hd (cs := #[.int .i64 X4, .int .i64 XB, .slice XE Xe.length XF]) (t := 56) ?hr ?_; (case hd => rfl); (case hg => rfl); (case hr => exact zb10); intro XfG hg w6 hbox hb; have Uk := az (hbox); have XfH := az ((zb129 : w.heap.size ≤ XfG)); have XwB := XfH; replace HB := az (Xc zb1 hb); clear hb hbox hg) | ((with_reducible refine Xn (N := 3) rfl ?_); refine Xl ?hg (N := 3) ?hd (cs := #[.int .i64 Zu, .int .i64 Z5, .slice Dr ZT.length Dt]) (t := 56) ?hr ?_; (case hd => rfl); (case hg => rfl); (case hr => exact zb10); intro XfI hg w7 hbox hb; have N7 := az (hbox); have XfJ := az ((zb131 : w.heap.size ≤ XfI)); have XwC := XfJ; replace HB := az (Xc zb0 hb); obtain ⟨Sg, Si⟩ := nb Uk hg (fun h => by (with_reducible repeat (first | apply bn | apply bd | apply ba)); exact h); replace Uk := bb Uk (fun h => by (with_reducible repeat (first | apply bn | apply bd | apply ba)); exact h) hb; clear hb hbox hg; have hnb8 := Sg.out; have hnc8 := Si.out; obtain ⟨WY, WZ, Pb⟩ := cz3 Uk; obtain ⟨Pd, Pe, Pf⟩ := fz3 Uk; obtain ⟨D6, D7, D8⟩ := cz3 N7; have D9 := Xd N7.out 0; have DC := Xd N7.out 1; have DD := Xd N7.out 2) | (go_at_call 84; (with_reducible refine (Ya.calls k _ _ Xe _ _ ZT Xox _ ?side1 ?side2 ?side3 ?side4 A5.out).mono ?_); (case side1 => exact zb5); (case side2 => exact zb92); (case side3 => exact zb19); (case side4 => exact Ps.out); rintro e w' ⟨rfl, ⟨nd, rfl⟩⟩))
   go_ret
   exact ⟨zb4, zb0⟩
  ·rw [if_neg c4] at H
   have c4b0 : (XB == Z5) = false := beq_eq_false_iff_ne.mpr c4; have c4b1 : (XB != Z5) = true := bne_iff_ne.mpr c4; obtain rfl := Option.some.inj H
   go_enter Tryz.func54, Tryz.ntmps54
   go_wp2_with (first | ((with_reducible refine Xn (N := 2) rfl ?_); refine Xl ?hg (N := 2) ?hd (cs := #[.int .i64 X4, .int .i64 XB, .slice XE Xe.length XF]) (t := 56) ?hr ?_; (case hd => rfl); (case hg => rfl); (case hr => exact zb10); intro XfG hg w11 hbox hb; have Uk := az (hbox); have XfH := az ((zb129 : w.heap.size ≤ XfG)); have XwB := XfH; replace HB := az (Xc zb1 hb); clear hb hbox hg) | ((with_reducible refine Xn (N := 3) rfl ?_); refine Xl ?hg (N := 3) ?hd (cs := #[.int .i64 Zu, .int .i64 Z5, .slice Dr ZT.length Dt]) (t := 56) ?hr ?_; (case hd => rfl); (case hg => rfl); (case hr => exact zb10); intro XfI hg w12 hbox hb; have N7 := az (hbox); have XfJ := az ((zb131 : w.heap.size ≤ XfI)); have XwC := XfJ; replace HB := az (Xc zb0 hb); obtain ⟨Sg, Si⟩ := nb Uk hg (fun h => by (with_reducible repeat (first | apply bn | apply bd | apply ba)); exact h); replace Uk := bb Uk (fun h => by (with_reducible repeat (first | apply bn | apply bd | apply ba)); exact h) hb; clear hb hbox hg; have Xqg := Sg.out; have Xqh := Si.out; obtain ⟨FP, FQ, FR⟩ := cz3 Uk; obtain ⟨FT, FU, FV⟩ := fz3 Uk; obtain ⟨Rl, Rm, Rn⟩ := cz3 N7; have Ro := Xd N7.out 0; have Rp := Xd N7.out 1; have Rq := Xd N7.out 2))
   go_ret
   exact ⟨zb4, zb0⟩
 ·rw [if_neg c3] at H
  have c3b0 : (X4 == Zu) = false := beq_eq_false_iff_ne.mpr c3; have c3b1 : (X4 != Zu) = true := bne_iff_ne.mpr c3; obtain rfl := Option.some.inj H
  go_enter Tryz.func54, Tryz.ntmps54
  go_wp2_with (first | ((with_reducible refine Xn (N := 2) rfl ?_); refine Xl ?hg (N := 2) ?hd (cs := #[.int .i64 X4, .int .i64 XB, .slice XE Xe.length XF]) (t := 56) ?hr ?_; (case hd => rfl); (case hg => rfl); (case hr => exact zb10); intro XfG hg w16 hbox hb; have Uk := az (hbox); have XfH := az ((zb129 : w.heap.size ≤ XfG)); have XwB := XfH; replace HB := az (Xc zb1 hb); clear hb hbox hg) | ((with_reducible refine Xn (N := 3) rfl ?_); refine Xl ?hg (N := 3) ?hd (cs := #[.int .i64 Zu, .int .i64 Z5, .slice Dr ZT.length Dt]) (t := 56) ?hr ?_; (case hd => rfl); (case hg => rfl); (case hr => exact zb10); intro XfI hg w17 hbox hb; have N7 := az (hbox); have XfJ := az ((zb131 : w.heap.size ≤ XfI)); have XwC := XfJ; replace HB := az (Xc zb0 hb); obtain ⟨Sg, Si⟩ := nb Uk hg (fun h => by (with_reducible repeat (first | apply bn | apply bd | apply ba)); exact h); replace Uk := bb Uk (fun h => by (with_reducible repeat (first | apply bn | apply bd | apply ba)); exact h) hb; clear hb hbox hg; have Xwv := Sg.out; have Xww := Si.out; obtain ⟨Gp, Gq, Gr⟩ := cz3 Uk; obtain ⟨Gs, Gt, Gu⟩ := fz3 Uk; obtain ⟨Oq, Ot, Ou⟩ := cz3 N7; have Ov := Xd N7.out 0; have Ow := Xd N7.out 1; have Ox := Xd N7.out 2))
  go_ret
  exact ⟨zb4, zb0⟩
end Go.Proofs.YtphnphmbfogmlaaGreat.Pr
