import Derived.Test.YtphnphmbfogmlaaGreatQFByq
import Derived.Test.YtphnphmbfogmlaaGreatQFPrK
import Derived.Test.YtphnphmbfogmlaaGreatQFSx
import Derived.Test.YtphnphmbfogmlaaGreatQFPrInts
namespace Go.Proofs.YtphnphmbfogmlaaGreat.Pr
open Go.RowKit Go.PW Go.PL Go.PM
attribute [local go_sem] Y3 Y4 YN YO Ya Yb Y5 Y6
set_option linter.unusedVariables false
set_option linter.unusedSimpArgs false
def XP.l0 : Nat → List Int → Int → Int → Int → Option (Int)
 | 0, _, _, _, _ => none
 | k + 1, x0, x1, x7, x8 => if x8 < x7 then (if 0 ≤ x8 then (if x8 < (x0.length : Int) then (if x1 = (rd x0 x8) then (some x8) else (XP.l0 k x0 x1 x7 (wrap64 (x8 + 1)))) else (none)) else (none)) else (some (-1))
def XP.f (k : Nat) (l0 : List Int) (a1 : Int) : Option (Int) := XP.l0 k l0 a1 (l0.length : Int) 0
set_option maxHeartbeats 8000000 in
set_option maxRecDepth 100000 in
theorem XP.calls (k : Nat) (A0 : Option Addr) (c0 : Nat) (l0 : List Int) (a1 : Int) (r : Int) (w : World) (hr0 : Kd.C (Kd.int .i64) w A0 l0.length l0) (hc0 : l0.length ≤ c0) (h : XP.f k l0 a1 = some r) :
 Calls Tryz.prog 90 #[.slice A0 l0.length c0, .int .i64 a1] w fun e w' => e = .returned (.int .i64 r) ∧ ZE w w' := by
 have HR0 := az hr0; have HC0 := az hc0; clear hr0 hc0; have H : (XP.l0 k l0 a1 (l0.length : Int) 0) = some r := h; clear h; have H' := az H; clear H
 go_enter Tryz.func90, Tryz.ntmps90
 go_wp2
 go_loopg [8] k (fun kq v8 w' => ∃ (Jl : Int), v8 = .int .i64 Jl ∧ Aside0 (XP.l0 kq l0 a1 (l0.length : Int) Jl = some r) ∧ Aside0 (kq ≤ k) ∧ ZE w w')
 case atStart => exact ⟨(0), zb5, H', ⟨Nat.le_refl _⟩, zb9⟩
 case round =>
  clear H';(try clear p2)
  obtain ⟨Jl, rfl, HA, HK1, ⟨m1, rfl⟩⟩ := hrel
  cases gk with
  | zero => exact absurd HA.out (by simp [XP.l0])
  | succ k1 =>
   have H := HA.out; clear HA; simp only [XP.l0] at H
   by_cases c3 : Jl < (l0.length : Int)
   ·rw [if_pos c3] at H
    have c3b0 : decide (Jl < (l0.length : Int)) = true := decide_eq_true c3; clear c3
    by_cases c4 : 0 ≤ Jl
    ·rw [if_pos c4] at H
     have c4b0 : decide (0 ≤ Jl) = true := decide_eq_true c4; clear c4
     by_cases c5 : Jl < (l0.length : Int)
     ·rw [if_pos c5] at H
      have c5b0 : decide (Jl < (l0.length : Int)) = true := decide_eq_true c5; clear c5
      by_cases c6 : a1 = (rd l0 Jl)
      ·rw [if_pos c6] at H
       have c6b0 : (a1 == (rd l0 Jl)) = true := beq_iff_eq.mpr c6; have c6b1 : (a1 != (rd l0 Jl)) = false := bne_eq_false_iff_eq.mpr c6; clear c6; obtain rfl := Option.some.inj H; have XeR : 0 ≤ (Jl : Int) := of_decide_eq_true zb3; have XeS : Jl < (l0.length : Int) := of_decide_eq_true zb3; obtain ⟨XvJ, Xt8, Xq2⟩ := Kd.Jn HR0.out Jl XeR XeS
       cases Xt8
       replace XeR := eq_true XeR; replace XeS := eq_true XeS
       go_wp2
       go_ret
       exact ⟨zb5, zb9⟩
      ·rw [if_neg c6] at H
       have c6b0 : (a1 == (rd l0 Jl)) = false := beq_eq_false_iff_ne.mpr c6; have c6b1 : (a1 != (rd l0 Jl)) = true := bne_iff_ne.mpr c6; have H' := az H; clear H; have XeR : 0 ≤ (Jl : Int) := of_decide_eq_true zb3; have XeS : Jl < (l0.length : Int) := of_decide_eq_true zb3; obtain ⟨XvJ, Xt8, Xq2⟩ := Kd.Jn HR0.out Jl XeR XeS
       cases Xt8
       replace XeR := eq_true XeR; replace XeS := eq_true XeS
       go_wp2
       go_roundg k1
       case measure => have := HK1.out; omega
       case rel => exact ⟨(wrap64 (Jl + 1)), zb5, H', ⟨zb33⟩, zb9⟩
     ·rw [if_neg c5] at H
      exact absurd H (by simp)
    ·rw [if_neg c4] at H
     exact absurd H (by simp)
   ·rw [if_neg c3] at H
    have c3b0 : decide (Jl < (l0.length : Int)) = false := decide_eq_false c3; clear c3; obtain rfl := Option.some.inj H
    go_wp2
    go_ret
    exact ⟨zb5, zb9⟩
def Z9.f (k : Nat) (l0 : List Int) (a1 : Int) : Option (Bool) := (XP.f k l0 a1).bind fun Xkv => (some (decide (Xkv ≥ 0)))
set_option maxHeartbeats 8000000 in
set_option maxRecDepth 100000 in
theorem Z9.calls (k : Nat) (A0 : Option Addr) (c0 : Nat) (l0 : List Int) (a1 : Int) (r : Bool) (w : World) (hr0 : Kd.C (Kd.int .i64) w A0 l0.length l0) (hc0 : l0.length ≤ c0) (h : Z9.f k l0 a1 = some r) :
 Calls Tryz.prog 60 #[.slice A0 l0.length c0, .int .i64 a1] w fun e w' => e = .returned (.bool r) ∧ ZE w w' := by
 have HR0 := az hr0; have HC0 := az hc0; clear hr0 hc0; have H : ((XP.f k l0 a1).bind fun Xkv => (some (decide (Xkv ≥ 0)))) = some r := h; clear h; replace H := Option.bind_eq_some_iff.mp H; obtain ⟨Xkv, A30, H⟩ := H; replace H : (some (decide (Xkv ≥ 0))) = some r := H; have A3 := az A30; clear A30; obtain rfl := Option.some.inj H
 go_enter Tryz.func60, Tryz.ntmps60
 go_wp2_with (first | ((with_reducible refine Xo (f := 90) rfl ?_); refine Yx (some 7) rfl rfl Tryz.func90 zb6 rfl #[.slice A0 l0.length c0, .int .i64 a1] rfl zb2 ?_; (with_reducible refine (XP.calls k _ _ l0 a1 Xkv _ ?side1 ?side2 A3.out).mono ?_); (case side1 => exact zb16); (case side2 => exact HC0.out); rintro e w' ⟨rfl, ⟨nd, rfl⟩⟩; refine ⟨_, rfl, ?_⟩))
 go_ret
 exact ⟨zb5, zb9⟩
def XO.l0 : Nat → List Int → List Int → Int → Int → Option (Bool)
 | 0, _, _, _, _ => none
 | k + 1, x0, x1, x12, x13 => if x13 < x12 then (if 0 ≤ x13 then (if x13 < (x0.length : Int) then (if x13 < (x1.length : Int) then (if (rd x0 x13) = (rd x1 x13) then (XO.l0 k x0 x1 x12 (wrap64 (x13 + 1))) else (some false)) else (none)) else (none)) else (none)) else (some true)
def XO.f (k : Nat) (l0 : List Int) (l1 : List Int) : Option (Bool) := if (l0.length : Int) = (l1.length : Int) then (XO.l0 k l0 l1 (l0.length : Int) 0) else (some false)
set_option maxHeartbeats 8000000 in
set_option maxRecDepth 100000 in
theorem XO.calls (k : Nat) (A0 : Option Addr) (c0 : Nat) (l0 : List Int) (A1 : Option Addr) (c1 : Nat) (l1 : List Int) (r : Bool) (w : World) (hr0 : Kd.C (Kd.int .i64) w A0 l0.length l0) (hc0 : l0.length ≤ c0) (hr1 : Kd.C (Kd.int .i64) w A1 l1.length l1) (hc1 : l1.length ≤ c1) (h : XO.f k l0 l1 = some r) :
 Calls Tryz.prog 84 #[.slice A0 l0.length c0, .slice A1 l1.length c1] w fun e w' => e = .returned (.bool r) ∧ ZE w w' := by
 have HR0 := az hr0; have HC0 := az hc0; clear hr0 hc0; have HR1 := az hr1; have HC1 := az hc1; clear hr1 hc1; have H : (if (l0.length : Int) = (l1.length : Int) then (XO.l0 k l0 l1 (l0.length : Int) 0) else (some false)) = some r := h; clear h
 by_cases c3 : (l0.length : Int) = (l1.length : Int)
 ·rw [if_pos c3] at H
  have c3b0 : ((l0.length : Int) == (l1.length : Int)) = true := beq_iff_eq.mpr c3; have c3b1 : ((l0.length : Int) != (l1.length : Int)) = false := bne_eq_false_iff_eq.mpr c3
  have c3b2 : (l0.length == l1.length) = true := by first | simpa using c3 | (simp at c3 ⊢; omega)
  clear c3; have H' := az H; clear H
  go_enter Tryz.func84, Tryz.ntmps84
  go_wp2
  repeat (go_quiet (fail); try go_wp2)
  go_loopg [13] k (fun kq v13 w' => ∃ (J2 : Int), v13 = .int .i64 J2 ∧ Aside0 (XO.l0 kq l0 l1 (l0.length : Int) J2 = some r) ∧ Aside0 (kq ≤ k) ∧ ZE w w')
  case atStart => exact ⟨(0), zb5, H', ⟨Nat.le_refl _⟩, zb9⟩
  case round =>
   clear H';(try clear c1);(try clear p2);(try clear c3);(try clear c3b0);(try clear c3b1);(try clear c3b2)
   obtain ⟨J2, rfl, HA, HK1, ⟨m1, rfl⟩⟩ := hrel
   cases gk with
   | zero => exact absurd HA.out (by simp [XO.l0])
   | succ k1 =>
    have H := HA.out; clear HA; simp only [XO.l0] at H
    by_cases c4 : J2 < (l0.length : Int)
    ·rw [if_pos c4] at H
     have c4b0 : decide (J2 < (l0.length : Int)) = true := decide_eq_true c4; clear c4
     by_cases c5 : 0 ≤ J2
     ·rw [if_pos c5] at H
      have c5b0 : decide (0 ≤ J2) = true := decide_eq_true c5; clear c5
      by_cases c6 : J2 < (l0.length : Int)
      ·rw [if_pos c6] at H
       have c6b0 : decide (J2 < (l0.length : Int)) = true := decide_eq_true c6; clear c6
       by_cases c7 : J2 < (l1.length : Int)
       ·rw [if_pos c7] at H
        have c7b0 : decide (J2 < (l1.length : Int)) = true := decide_eq_true c7; clear c7
        by_cases c8 : (rd l0 J2) = (rd l1 J2)
        ·rw [if_pos c8] at H
         have c8b0 : ((rd l0 J2) == (rd l1 J2)) = true := beq_iff_eq.mpr c8; have c8b1 : ((rd l0 J2) != (rd l1 J2)) = false := bne_eq_false_iff_eq.mpr c8; clear c8; have H' := az H; clear H; have XeT : 0 ≤ (J2 : Int) := of_decide_eq_true zb3; have XeU : J2 < (l0.length : Int) := of_decide_eq_true zb3; obtain ⟨XvK, Xt9, Xq3⟩ := Kd.Jn HR0.out J2 XeT XeU
         cases Xt9
         replace XeT := eq_true XeT; replace XeU := eq_true XeU; have XeV : 0 ≤ (J2 : Int) := of_decide_eq_true zb3; have XeW : J2 < (l1.length : Int) := of_decide_eq_true zb3; obtain ⟨XvL, XtA, Xq4⟩ := Kd.Jn HR1.out J2 XeV XeW
         cases XtA
         replace XeV := eq_true XeV; replace XeW := eq_true XeW
         go_wp2
         repeat (go_quiet (fail); try go_wp2)
         go_roundg k1
         case measure => have := HK1.out; omega
         case rel => exact ⟨(wrap64 (J2 + 1)), zb5, H', ⟨zb33⟩, zb9⟩
        ·rw [if_neg c8] at H
         have c8b0 : ((rd l0 J2) == (rd l1 J2)) = false := beq_eq_false_iff_ne.mpr c8; have c8b1 : ((rd l0 J2) != (rd l1 J2)) = true := bne_iff_ne.mpr c8; obtain rfl := Option.some.inj H; have XeT : 0 ≤ (J2 : Int) := of_decide_eq_true zb3; have XeU : J2 < (l0.length : Int) := of_decide_eq_true zb3; obtain ⟨XvK, Xt9, Xq3⟩ := Kd.Jn HR0.out J2 XeT XeU
         cases Xt9
         replace XeT := eq_true XeT; replace XeU := eq_true XeU; have XeV : 0 ≤ (J2 : Int) := of_decide_eq_true zb3; have XeW : J2 < (l1.length : Int) := of_decide_eq_true zb3; obtain ⟨XvL, XtA, Xq4⟩ := Kd.Jn HR1.out J2 XeV XeW
         cases XtA
         replace XeV := eq_true XeV; replace XeW := eq_true XeW
         go_wp2
         repeat (go_quiet (fail); try go_wp2)
         go_ret
         exact ⟨zb5, zb9⟩
       ·rw [if_neg c7] at H
        exact absurd H (by simp)
      ·rw [if_neg c6] at H
       exact absurd H (by simp)
     ·rw [if_neg c5] at H
      exact absurd H (by simp)
    ·rw [if_neg c4] at H
     have c4b0 : decide (J2 < (l0.length : Int)) = false := decide_eq_false c4; clear c4; obtain rfl := Option.some.inj H
     go_wp2
     repeat (go_quiet (fail); try go_wp2)
     go_ret
     exact ⟨zb5, zb9⟩
 ·rw [if_neg c3] at H
  have c3b0 : ((l0.length : Int) == (l1.length : Int)) = false := beq_eq_false_iff_ne.mpr c3; have c3b1 : ((l0.length : Int) != (l1.length : Int)) = true := bne_iff_ne.mpr c3
  have c3b2 : (l0.length == l1.length) = false := by first | simpa using c3 | (simp at c3 ⊢; omega)
  obtain rfl := Option.some.inj H
  go_enter Tryz.func84, Tryz.ntmps84
  go_wp2
  repeat (go_quiet (fail); try go_wp2)
  go_ret
  exact ⟨zb5, zb9⟩
def J4.f (k : Nat) (Xu : Int) (Xy : Int) (Xm : List Int) (Zd : Int) (Zk : Int) (ZC : List Int) : Option (Bool) := if Xu = Zd then (if Xy = Zk then ((XO.f k Xm ZC).bind fun Xkw => (some Xkw)) else (some false)) else (some false)
set_option maxHeartbeats 8000000 in
set_option maxRecDepth 100000 in
theorem J4.calls (k : Nat) (Xu : Int) (Xy : Int) (Yg : Option Addr) (Yh : Nat) (Xm : List Int) (Zd : Int) (Zk : Int) (VR : Option Addr) (VS : Nat) (ZC : List Int) (r : Bool) (w : World) (hr0_2 : Kd.C (Kd.int .i64) w Yg Xm.length Xm) (hc0_2 : Xm.length ≤ Yh) (hr1_2 : Kd.C (Kd.int .i64) w VR ZC.length ZC) (hc1_2 : ZC.length ≤ VS) (h : J4.f k Xu Xy Xm Zd Zk ZC = some r) :
 Calls Tryz.prog 54 #[.agg #[.int .i64 Xu, .int .i64 Xy, .slice Yg Xm.length Yh], .agg #[.int .i64 Zd, .int .i64 Zk, .slice VR ZC.length VS]] w fun e w' => e = .returned (.bool r) ∧ Below w.heap.size w w' := by
 have hu56 := Tryz.underlying56; have U6 := az hr0_2; have JI := az hc0_2; clear hr0_2 hc0_2; have XfX := az hr1_2; have Ng := az hc1_2; clear hr1_2 hc1_2; have HB := az (Below.refl w.heap.size w); have H : (if Xu = Zd then (if Xy = Zk then ((XO.f k Xm ZC).bind fun Xkw => (some Xkw)) else (some false)) else (some false)) = some r := h; clear h
 by_cases c3 : Xu = Zd
 ·rw [if_pos c3] at H
  have c3b0 : (Xu == Zd) = true := beq_iff_eq.mpr c3; have c3b1 : (Xu != Zd) = false := bne_eq_false_iff_eq.mpr c3; clear c3
  by_cases c4 : Xy = Zk
  ·rw [if_pos c4] at H
   have c4b0 : (Xy == Zk) = true := beq_iff_eq.mpr c4; have c4b1 : (Xy != Zk) = false := bne_eq_false_iff_eq.mpr c4; clear c4; replace H := Option.bind_eq_some_iff.mp H; obtain ⟨Xkw, A50, H⟩ := H; replace H : (some Xkw) = some r := H; have A5 := az A50; clear A50; obtain rfl := Option.some.inj H
   go_enter Tryz.func54, Tryz.ntmps54
   go_wp2_with (first | ((with_reducible refine Xp (N := 2) rfl ?_); refine Xn ?hg (N := 2) ?hd (cs := #[.int .i64 Xu, .int .i64 Xy, .slice Yg Xm.length Yh]) (t := 56) ?hr ?_; (case hd => rfl); (case hg => rfl); (case hr => exact zb7); intro Xce hg w6 hbox hb; have FJ := az (hbox); have Xcf := az ((zb95 : w.heap.size ≤ Xce)); have Xsh := Xcf; replace HB := az (Xc zb0 hb); clear hb hbox hg) | ((with_reducible refine Xp (N := 3) rfl ?_); refine Xn ?hg (N := 3) ?hd (cs := #[.int .i64 Zd, .int .i64 Zk, .slice VR ZC.length VS]) (t := 56) ?hr ?_; (case hd => rfl); (case hg => rfl); (case hr => exact zb7); intro Xcg hg w7 hbox hb; have UJ := az (hbox); have Xch := az ((zb97 : w.heap.size ≤ Xcg)); have Xsi := Xch; replace HB := az (Xc zb1 hb); obtain ⟨Me, Mf⟩ := nb FJ hg (fun h => by (with_reducible repeat (first | apply bn | apply bd | apply ba)); exact h); replace FJ := bb FJ (fun h => by (with_reducible repeat (first | apply bn | apply bd | apply ba)); exact h) hb; clear hb hbox hg; have hnb8 := Me.out; have hnc8 := Mf.out; obtain ⟨Ko, Kq, Kr⟩ := cz3 FJ; obtain ⟨Kt, Ku, Kv⟩ := fz3 FJ; obtain ⟨Xa8, Xa9, XaA⟩ := cz3 UJ; have XaB := Xe UJ.out 0; have XaC := Xe UJ.out 1; have XaD := Xe UJ.out 2) | (go_at_call 84; (with_reducible refine (XO.calls k _ _ Xm _ _ ZC Xkw _ ?side1 ?side2 ?side3 ?side4 A5.out).mono ?_); (case side1 => exact zb8); (case side2 => exact JI.out); (case side3 => exact zb19); (case side4 => exact Ng.out); rintro e w' ⟨rfl, ⟨nd, rfl⟩⟩))
   go_ret
   exact ⟨zb4, zb1⟩
  ·rw [if_neg c4] at H
   have c4b0 : (Xy == Zk) = false := beq_eq_false_iff_ne.mpr c4; have c4b1 : (Xy != Zk) = true := bne_iff_ne.mpr c4; obtain rfl := Option.some.inj H
   go_enter Tryz.func54, Tryz.ntmps54
   go_wp2_with (first | ((with_reducible refine Xp (N := 2) rfl ?_); refine Xn ?hg (N := 2) ?hd (cs := #[.int .i64 Xu, .int .i64 Xy, .slice Yg Xm.length Yh]) (t := 56) ?hr ?_; (case hd => rfl); (case hg => rfl); (case hr => exact zb7); intro Xce hg w11 hbox hb; have FJ := az (hbox); have Xcf := az ((zb95 : w.heap.size ≤ Xce)); have Xsh := Xcf; replace HB := az (Xc zb0 hb); clear hb hbox hg) | ((with_reducible refine Xp (N := 3) rfl ?_); refine Xn ?hg (N := 3) ?hd (cs := #[.int .i64 Zd, .int .i64 Zk, .slice VR ZC.length VS]) (t := 56) ?hr ?_; (case hd => rfl); (case hg => rfl); (case hr => exact zb7); intro Xcg hg w12 hbox hb; have UJ := az (hbox); have Xch := az ((zb97 : w.heap.size ≤ Xcg)); have Xsi := Xch; replace HB := az (Xc zb1 hb); obtain ⟨Me, Mf⟩ := nb FJ hg (fun h => by (with_reducible repeat (first | apply bn | apply bd | apply ba)); exact h); replace FJ := bb FJ (fun h => by (with_reducible repeat (first | apply bn | apply bd | apply ba)); exact h) hb; clear hb hbox hg; have XrZ := Me.out; have Xsa := Mf.out; obtain ⟨NV, NW, NY⟩ := cz3 FJ; obtain ⟨NZ, Sa, Sb⟩ := fz3 FJ; obtain ⟨Ri, Rj, Rk⟩ := cz3 UJ; have Rl := Xe UJ.out 0; have Rm := Xe UJ.out 1; have Rn := Xe UJ.out 2))
   go_ret
   exact ⟨zb4, zb1⟩
 ·rw [if_neg c3] at H
  have c3b0 : (Xu == Zd) = false := beq_eq_false_iff_ne.mpr c3; have c3b1 : (Xu != Zd) = true := bne_iff_ne.mpr c3; obtain rfl := Option.some.inj H
  go_enter Tryz.func54, Tryz.ntmps54
  go_wp2_with (first | ((with_reducible refine Xp (N := 2) rfl ?_); refine Xn ?hg (N := 2) ?hd (cs := #[.int .i64 Xu, .int .i64 Xy, .slice Yg Xm.length Yh]) (t := 56) ?hr ?_; (case hd => rfl); (case hg => rfl); (case hr => exact zb7); intro Xce hg w16 hbox hb; have FJ := az (hbox); have Xcf := az ((zb95 : w.heap.size ≤ Xce)); have Xsh := Xcf; replace HB := az (Xc zb0 hb); clear hb hbox hg) | ((with_reducible refine Xp (N := 3) rfl ?_); refine Xn ?hg (N := 3) ?hd (cs := #[.int .i64 Zd, .int .i64 Zk, .slice VR ZC.length VS]) (t := 56) ?hr ?_; (case hd => rfl); (case hg => rfl); (case hr => exact zb7); intro Xcg hg w17 hbox hb; have UJ := az (hbox); have Xch := az ((zb97 : w.heap.size ≤ Xcg)); have Xsi := Xch; replace HB := az (Xc zb1 hb); obtain ⟨Me, Mf⟩ := nb FJ hg (fun h => by (with_reducible repeat (first | apply bn | apply bd | apply ba)); exact h); replace FJ := bb FJ (fun h => by (with_reducible repeat (first | apply bn | apply bd | apply ba)); exact h) hb; clear hb hbox hg; have Xvy := Me.out; have Xvz := Mf.out; obtain ⟨TQ, TR, TS⟩ := cz3 FJ; obtain ⟨TT, TU, TV⟩ := fz3 FJ; obtain ⟨Ro, Rp, Rq⟩ := cz3 UJ; have Rs := Xe UJ.out 0; have Rt := Xe UJ.out 1; have Ru := Xe UJ.out 2))
  go_ret
  exact ⟨zb4, zb1⟩
end Go.Proofs.YtphnphmbfogmlaaGreat.Pr
