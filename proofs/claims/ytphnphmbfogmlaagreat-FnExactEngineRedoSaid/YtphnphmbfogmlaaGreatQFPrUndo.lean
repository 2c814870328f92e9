import Derived.Test.YtphnphmbfogmlaaGreatQFByq
import Derived.Test.YtphnphmbfogmlaaGreatQFPrK
import Derived.Test.YtphnphmbfogmlaaGreatQFSx
import Derived.Test.YtphnphmbfogmlaaGreatQFPrM
import Derived.Test.YtphnphmbfogmlaaGreatQFPrLC2
namespace Go.Proofs.YtphnphmbfogmlaaGreat.Pr
open Go.RowKit Go.PW Go.PL Go.PM
attribute [local go_sem] Y3 Y4 YN YO Ya Yb Y5 Y6
set_option linter.unusedVariables false
set_option linter.unusedSimpArgs false
mutual
def XT.l0 : Nat → List (S76) → Int → Option (Int)
 | 0, _, _ => none
 | k + 1, x0, x1 => if x1 = 0 then (some 0) else (if 0 ≤ (wrap64 (x1 - 1)) then (if (wrap64 (x1 - 1)) < (x0.length : Int) then (if ((Xa x0 (wrap64 (x1 - 1))).f0) = 1 then (XT.j1 k x0 x1 ((Xa x0 (wrap64 (x1 - 1))).f0) (((Xa x0 (wrap64 (x1 - 1))).f0) == 1) ((Xa x0 (wrap64 (x1 - 1))).f0) ((Xa x0 (wrap64 (x1 - 1))).f1) ((Xa x0 (wrap64 (x1 - 1))).f2) ((Xa x0 (wrap64 (x1 - 1))).f3) ((Xa x0 (wrap64 (x1 - 1))).f4) ((Xa x0 (wrap64 (x1 - 1))).f5) ((Xa x0 (wrap64 (x1 - 1))).f6) ((Xa x0 (wrap64 (x1 - 1))).f7)) else (XT.j1 k x0 x1 ((Xa x0 (wrap64 (x1 - 1))).f0) (((Xa x0 (wrap64 (x1 - 1))).f0) == 2) ((Xa x0 (wrap64 (x1 - 1))).f0) ((Xa x0 (wrap64 (x1 - 1))).f1) ((Xa x0 (wrap64 (x1 - 1))).f2) ((Xa x0 (wrap64 (x1 - 1))).f3) ((Xa x0 (wrap64 (x1 - 1))).f4) ((Xa x0 (wrap64 (x1 - 1))).f5) ((Xa x0 (wrap64 (x1 - 1))).f6) ((Xa x0 (wrap64 (x1 - 1))).f7))) else (none)) else (none))
def XT.j1 : Nat → List (S76) → Int → Int → Bool → Int → Int → Int → Int → Int → Int → Int → Int → Option (Int)
 | 0, _, _, _, _, _, _, _, _, _, _, _, _ => none
 | k + 1, x0, x1, x14, x17, X0k, X0l, X0m, X0n, X0o, X0p, Xq5, Xq6 => if x17 = true then (some x1) else (if x14 = 6 then (XT.l0 k x0 Xq6) else (XT.l0 k x0 Xq5))
end
def XT.f (k : Nat) (l0 : List (S76)) (a1 : Int) : Option (Int) := XT.l0 k l0 a1
set_option maxHeartbeats 8000000 in
set_option maxRecDepth 100000 in
theorem XT.calls (k : Nat) (A0 : Option Addr) (c0 : Nat) (l0 : List (S76)) (a1 : Int) (r : Int) (w : World) (hr0 : Kd.C k76 w A0 l0.length l0) (hc0 : l0.length ≤ c0) (h : XT.f k l0 a1 = some r) :
 Calls Tryz.prog 114 #[.slice A0 l0.length c0, .int .i64 a1] w fun e w' => e = .returned (.int .i64 r) ∧ Below w.heap.size w w' := by
 have hu76 := Tryz.underlying76; have HR0 := az hr0; have HC0 := az hc0; clear hr0 hc0; have HB := az (Below.refl w.heap.size w); have H : (XT.l0 k l0 a1) = some r := h; clear h; have H' := az H; clear H
 go_enter Tryz.func114, Tryz.ntmps114
 go_wp2
 go_loopg [1] k (fun kq v1 w' => ∃ (ZB : Int), v1 = .int .i64 ZB ∧ Aside0 (XT.l0 kq l0 ZB = some r) ∧ Aside0 (kq ≤ k) ∧ Aside0 (Below w.heap.size w w'))
 case atStart => exact ⟨(a1), zb5, H', ⟨Nat.le_refl _⟩, ⟨zb0⟩⟩
 case round =>
  clear H';(try clear c1);(try clear p2)
  obtain ⟨ZB, rfl, HA, HK1, HB⟩ := hrel
  cases gk with
  | zero => exact absurd HA.out (by simp [XT.l0])
  | succ k1 =>
   have H := HA.out; clear HA; simp only [XT.l0] at H
   by_cases c3 : ZB = 0
   ·rw [if_pos c3] at H
    have c3b0 : (ZB == 0) = true := beq_iff_eq.mpr c3; have c3b1 : (ZB != 0) = false := bne_eq_false_iff_eq.mpr c3; clear c3; obtain rfl := Option.some.inj H
    go_wp2
    go_ret
    exact ⟨zb4, zb0⟩
   ·rw [if_neg c3] at H
    have c3b0 : (ZB == 0) = false := beq_eq_false_iff_ne.mpr c3; have c3b1 : (ZB != 0) = true := bne_iff_ne.mpr c3
    obtain ⟨ji4, hji4⟩ : ∃ j_ : Int, (wrap64 (ZB - 1)) = j_ := ⟨_, rfl⟩
    replace H : (if 0 ≤ (ji4) then (if (ji4) < (l0.length : Int) then (if ((Xa l0 (ji4)).f0) = 1 then (XT.j1 k1 l0 ZB ((Xa l0 (ji4)).f0) (((Xa l0 (ji4)).f0) == 1) ((Xa l0 (ji4)).f0) ((Xa l0 (ji4)).f1) ((Xa l0 (ji4)).f2) ((Xa l0 (ji4)).f3) ((Xa l0 (ji4)).f4) ((Xa l0 (ji4)).f5) ((Xa l0 (ji4)).f6) ((Xa l0 (ji4)).f7)) else (XT.j1 k1 l0 ZB ((Xa l0 (ji4)).f0) (((Xa l0 (ji4)).f0) == 2) ((Xa l0 (ji4)).f0) ((Xa l0 (ji4)).f1) ((Xa l0 (ji4)).f2) ((Xa l0 (ji4)).f3) ((Xa l0 (ji4)).f4) ((Xa l0 (ji4)).f5) ((Xa l0 (ji4)).f6) ((Xa l0 (ji4)).f7))) else (none)) else (none)) = some r := by first | (rw [hji4] at H; exact H) | (simp only [hji4] at H ⊢; exact H)
    have hji4w : (IntKind.i64.wrap (ZB - 1)) = ji4 := (Xz _).trans hji4
    by_cases c5 : 0 ≤ (ji4)
    ·rw [if_pos c5] at H
     have c5b0 : decide (0 ≤ (ji4)) = true := decide_eq_true c5; clear c5
     by_cases c6 : (ji4) < (l0.length : Int)
     ·rw [if_pos c6] at H
      have c6b0 : decide ((ji4) < (l0.length : Int)) = true := decide_eq_true c6; clear c6; have HC7 := az H; clear H; have Xq7 : 0 ≤ ((ji4) : Int) := of_decide_eq_true zb3; have Xq8 : (ji4) < (l0.length : Int) := of_decide_eq_true zb3; obtain ⟨ad430, e430, Xbk, Xbl, Xbm, Xbn, Xbo, Xbp, Xbq, Xbr⟩ := Ym HR0.out (ji4) Xq7 Xq8
      cases e430
      replace Xbk := cb HB Xbk; replace Xbl := cb HB Xbl; replace Xbm := cb HB Xbm; replace Xbn := cb HB Xbn; replace Xbo := cb HB Xbo; replace Xbp := cb HB Xbp; replace Xbq := cb HB Xbq; replace Xbr := cb HB Xbr; replace Xq7 := eq_true Xq7; replace Xq8 := eq_true Xq8
      go_upto_if 17 with (first | ((with_reducible refine Xp (N := 5) rfl ?_); refine Xn ?hg (N := 5) ?hd (cs := #[.int .i64 0, .int .i64 0, .int .i64 0, .int .i64 0, .int .i64 0, .int .i64 0, .int .i64 0, .int .i64 0]) (t := 76) ?hr ?_; (case hd => rfl); (case hg => rfl); (case hr => exact zb7); intro Xsj hg w8 hbox hb; have SK := az (hbox); have XvM := az ((zb95 : w.heap.size ≤ Xsj)); have GE431 := XvM; replace HB := az (Xc zb0 hb); clear hb hbox hg; obtain ⟨Ko, Kq, Kr, CO, CP, CR, CS, CU⟩ := cz8 SK; obtain ⟨Kt, Ku, Kv, CV, CW, CX, CZ⟩ := fz7 SK; have Ba := Xe SK.out 7))
      (try simp only [Act.put, List.setIfInBounds_toArray, List.set_cons_zero, List.set_cons_succ])
      go_cut [17] (fun v17 wc => ∃ (kq : Nat) (Pq : Bool), v17 = .bool Pq ∧ Aside0 (XT.j1 kq l0 ZB ((Xa l0 (ji4)).f0) Pq ((Xa l0 (ji4)).f0) ((Xa l0 (ji4)).f1) ((Xa l0 (ji4)).f2) ((Xa l0 (ji4)).f3) ((Xa l0 (ji4)).f4) ((Xa l0 (ji4)).f5) ((Xa l0 (ji4)).f6) ((Xa l0 (ji4)).f7) = some r) ∧ Aside0 (kq ≤ k1) ∧ Aside0 (wc.heap[Xsj]? = some (.cells #[.int .i64 ((Xa l0 (ji4)).f0), .int .i64 ((Xa l0 (ji4)).f1), .int .i64 ((Xa l0 (ji4)).f2), .int .i64 ((Xa l0 (ji4)).f3), .int .i64 ((Xa l0 (ji4)).f4), .int .i64 ((Xa l0 (ji4)).f5), .int .i64 ((Xa l0 (ji4)).f6), .int .i64 ((Xa l0 (ji4)).f7)] 76 (0, 0))) ∧ Aside0 (Below w.heap.size w wc))
      case first =>
       have H := HC7.out; clear HC7
       by_cases c10 : ((Xa l0 (ji4)).f0) = 1
       ·rw [if_pos c10] at H
        have Vh : (((Xa l0 (ji4)).f0) == 1) = true := beq_iff_eq.mpr c10; have U8 : (((Xa l0 (ji4)).f0) != 1) = false := bne_eq_false_iff_eq.mpr c10; clear c10
        (first | rw [Vh] | (simp only [Xz, XF]; rw [Vh]) | skip)
        have H' := az H; clear H
        go_wp2
        go_meet
        case rel => exact ⟨_, ((((Xa l0 (ji4)).f0) == 1)), zb31, H', ⟨zb50⟩, ⟨by (with_reducible repeat (first | apply bn | apply bd | apply ba)); exact p8 SK⟩, ⟨zb1⟩⟩
       ·rw [if_neg c10] at H
        have Vh : (((Xa l0 (ji4)).f0) == 1) = false := beq_eq_false_iff_ne.mpr c10; have U8 : (((Xa l0 (ji4)).f0) != 1) = true := bne_iff_ne.mpr c10
        (first | rw [Vh] | (simp only [Xz, XF]; rw [Vh]) | skip)
        have H' := az H; clear H
        go_wp2
        go_meet
        case rel => exact ⟨_, ((((Xa l0 (ji4)).f0) == 2)), zb31, H', ⟨zb50⟩, ⟨by (with_reducible repeat (first | apply bn | apply bd | apply ba)); exact p8 SK⟩, ⟨zb1⟩⟩
      case rest =>
       clear HC7;(try clear c1);(try clear p2);(try clear c3);(try clear c3b0);(try clear c3b1);(try clear p4);(try clear q4);(try clear hx4);(try clear c5);(try clear c5b0);(try clear c6);(try clear c6b0);(try clear p6);(try clear c10);(try clear Vh);(try clear U8);(try clear Ko);(try clear Kq);(try clear Kr);(try clear CO);(try clear CP);(try clear CR);(try clear CS);(try clear CU);(try clear Kt);(try clear Ku);(try clear Kv);(try clear CV);(try clear CW);(try clear CX);(try clear CZ);(try clear Ba);(try clear Xbk);(try clear Xbl);(try clear Xbm);(try clear Xbn);(try clear Xbo);(try clear Xbp);(try clear Xbq);(try clear Xbr);(try clear p2);(try clear Xq7);(try clear Xq8)
       obtain ⟨kq, Pq, rfl, HA, HJ6, SK, HB⟩ := hcut
       cases kq with
       | zero => exact absurd HA.out (by simp [XT.j1])
       | succ kj6 =>
        have H := HA.out; clear HA; simp only [XT.j1] at H
        by_cases c11 : Pq = true
        ·subst c11
         have H1 : (some ZB) = some r := by rw [if_pos rfl] at H; exact H
         clear H; have H := H1; clear H1; obtain rfl := Option.some.inj H
         go_wp2
         go_ret
         exact ⟨zb70, zb1⟩
        ·replace c11 := Bool.eq_false_iff.mpr c11
         subst c11
         have H1 : (if ((Xa l0 (ji4)).f0) = 6 then (XT.l0 kj6 l0 ((Xa l0 (ji4)).f7)) else (XT.l0 kj6 l0 ((Xa l0 (ji4)).f6))) = some r := by rw [if_neg (show ¬ (false = true) by decide)] at H; exact H
         clear H; have H := H1; clear H1
         by_cases c12 : ((Xa l0 (ji4)).f0) = 6
         ·rw [if_pos c12] at H
          have Ph : (((Xa l0 (ji4)).f0) == 6) = true := beq_iff_eq.mpr c12; have XhL : (((Xa l0 (ji4)).f0) != 6) = false := bne_eq_false_iff_eq.mpr c12; clear c12; have H' := az H; clear H; obtain ⟨XaV, XaW, XaX, XhM, XhN, Xp1, Xp2, Xp3⟩ := cz8 SK; obtain ⟨XaY, XaZ, Xba, XhO, XhP, Xp4, Xp5, Xp6⟩ := fz8 SK
          go_wp2
          go_roundg kj6
          case measure => have := HK1.out; have := HJ6.out; omega
          case rel => exact ⟨(((Xa l0 (ji4)).f7)), zb31, H', ⟨zb93⟩, ⟨zb1⟩⟩
         ·rw [if_neg c12] at H
          have Ph : (((Xa l0 (ji4)).f0) == 6) = false := beq_eq_false_iff_ne.mpr c12; have XhL : (((Xa l0 (ji4)).f0) != 6) = true := bne_iff_ne.mpr c12; have H' := az H; clear H; obtain ⟨NV, NW, NY, Rb, Re, XaE, XaF, XaG⟩ := cz8 SK; obtain ⟨NZ, Sa, Sb, Rf, Rh, XaH, XaI, XaJ⟩ := fz8 SK
          go_wp2
          go_roundg kj6
          case measure => have := HK1.out; have := HJ6.out; omega
          case rel => exact ⟨(((Xa l0 (ji4)).f6)), zb31, H', ⟨zb93⟩, ⟨zb1⟩⟩
     ·rw [if_neg c6] at H
      exact absurd H (by simp)
    ·rw [if_neg c5] at H
     exact absurd H (by simp)
def Za.l0 : Nat → List (S76) → List Int → Int → Option (List Int)
 | 0, _, _, _ => none
 | k + 1, x0, x5, x6 => if x6 = 0 then (some x5) else (if x5.length < 17592186044416 then (if 0 ≤ (wrap64 (x6 - 1)) then (if (wrap64 (x6 - 1)) < (x0.length : Int) then ((XT.f k x0 ((Xa x0 (wrap64 (x6 - 1))).f6)).bind fun Xbs => (Za.l0 k x0 (x5 ++ [x6]) Xbs)) else (none)) else (none)) else (none))
def Za.f (k : Nat) (l0 : List (S76)) (a1 : Int) : Option (List Int) := (Jw.f k l0 a1).bind fun Xci => ((XT.f k l0 Xci).bind fun Xbt => (Za.l0 k l0 ([] : List Int) Xbt))
set_option maxHeartbeats 8000000 in
set_option maxRecDepth 100000 in
theorem Za.calls (k : Nat) (A0 : Option Addr) (c0 : Nat) (l0 : List (S76)) (a1 : Int) (r : List Int) (w : World) (hr0 : Kd.C k76 w A0 l0.length l0) (hc0 : l0.length ≤ c0) (h : Za.f k l0 a1 = some r) :
 Calls Tryz.prog 103 #[.slice A0 l0.length c0, .int .i64 a1] w fun e w' => ∃ v0_ : Value, e = .returned (v0_) ∧ Kd.R (Kd.int .i64) 3 w' w.heap.size (fun _ => True) v0_ r ∧ Below w.heap.size w w' := by
 have HR0 := az hr0; have HC0 := az hc0; clear hr0 hc0; have HB := az (Below.refl w.heap.size w); have H : ((Jw.f k l0 a1).bind fun Xci => ((XT.f k l0 Xci).bind fun Xbt => (Za.l0 k l0 ([] : List Int) Xbt))) = some r := h; clear h; replace H := Option.bind_eq_some_iff.mp H; obtain ⟨Xci, A30, H⟩ := H; replace H : ((XT.f k l0 Xci).bind fun Xbt => (Za.l0 k l0 ([] : List Int) Xbt)) = some r := H; have A3 := az A30; clear A30; replace H := Option.bind_eq_some_iff.mp H; obtain ⟨Xbt, A40, H⟩ := H; replace H : (Za.l0 k l0 ([] : List Int) Xbt) = some r := H; have A4 := az A40; clear A40; have H' := az H; clear H
 go_enter Tryz.func103, Tryz.ntmps103
 go_wp2_with (first | ((with_reducible refine Xo (f := 89) rfl ?_); refine Yx (some 10) rfl rfl Tryz.func89 zb6 rfl #[.slice A0 l0.length c0, .int .i64 a1] rfl zb2 ?_; (with_reducible refine (Jw.calls k _ _ l0 a1 Xci _ ?side1 ?side2 A3.out).mono ?_); (case side1 => exact zb16); (case side2 => exact HC0.out); rintro e w5 ⟨rfl, hb⟩; refine ⟨_, rfl, ?_⟩; replace HB := az (Xc zb0 hb); (try clear hb); (try clear hb2); (try clear hk); (try clear hi)) | ((with_reducible refine Xo (f := 114) rfl ?_); refine Yx (some 11) rfl rfl Tryz.func114 zb6 rfl #[.slice A0 l0.length c0, .int .i64 Xci] rfl zb2 ?_; (with_reducible refine (XT.calls k _ _ l0 Xci Xbt _ ?side1 ?side2 A4.out).mono ?_); (case side1 => exact zb15); (case side2 => exact HC0.out); rintro e w6 ⟨rfl, hb⟩; refine ⟨_, rfl, ?_⟩; replace HB := az (Xc zb0 hb); (try clear hb); (try clear hb2); (try clear hk); (try clear hi)))
 go_loopg [5, 6] k (fun kq v5 v6 w' => ∃ (Xh : List Int) (Yi : Int), v6 = .int .i64 Yi ∧ Aside0 (Za.l0 kq l0 Xh Yi = some r) ∧ Aside0 (kq ≤ k) ∧ Aside0 (Kd.R (Kd.int .i64) 3 w' w.heap.size (fun _ => True) v5 Xh) ∧ Aside0 (Below w.heap.size w w'))
 case atStart => exact ⟨(([] : List Int)), (Xbt), zb5, H', ⟨Nat.le_refl _⟩, ⟨zb44⟩, ⟨zb0⟩⟩
 case round =>
  clear H';(try clear c1);(try clear p2)
  obtain ⟨Xh, Yi, rfl, HA, HK1, HO_5, HB⟩ := hrel
  cases gk with
  | zero => exact absurd HA.out (by simp [Za.l0])
  | succ k1 =>
   have H := HA.out; clear HA; simp only [Za.l0] at H
   by_cases c7 : Yi = 0
   ·rw [if_pos c7] at H
    have c7b0 : (Yi == 0) = true := beq_iff_eq.mpr c7; have c7b1 : (Yi != 0) = false := bne_eq_false_iff_eq.mpr c7; clear c7; obtain rfl := Option.some.inj H
    go_wp2
    go_ret
    exact ⟨_, zb4, zb59, zb0⟩
   ·rw [if_neg c7] at H
    have c7b0 : (Yi == 0) = false := beq_eq_false_iff_ne.mpr c7; have c7b1 : (Yi != 0) = true := bne_iff_ne.mpr c7
    by_cases c8 : Xh.length < 17592186044416
    ·rw [if_pos c8] at H
     have LMc8 := az c8; clear c8
     obtain ⟨Xq9, hy434⟩ : ∃ y_ : List Int, y_ = (Xh ++ [Yi]) := ⟨_, rfl⟩
     replace H : (if 0 ≤ (wrap64 (Yi - 1)) then (if (wrap64 (Yi - 1)) < (l0.length : Int) then ((XT.f k1 l0 ((Xa l0 (wrap64 (Yi - 1))).f6)).bind fun Xbs => (Za.l0 k1 l0 Xq9 Xbs)) else (none)) else (none)) = some r := by first | (rw [hy434]; with_reducible exact H) | (have H2_ := (Option.bind_some _ _).symm.trans H; rw [hy434]; with_reducible exact H2_) | (have H2_ := (Option.bind_some _ _).symm.trans H; with_reducible exact H2_) | with_reducible exact H | (rw [hy434]; exact H) | exact H
     have Ny434 := az hy434; clear hy434
     obtain ⟨ji9, hji9⟩ : ∃ j_ : Int, (wrap64 (Yi - 1)) = j_ := ⟨_, rfl⟩
     replace H : (if 0 ≤ (ji9) then (if (ji9) < (l0.length : Int) then ((XT.f k1 l0 ((Xa l0 (ji9)).f6)).bind fun Xbs => (Za.l0 k1 l0 Xq9 Xbs)) else (none)) else (none)) = some r := by first | (rw [hji9] at H; exact H) | (simp only [hji9] at H ⊢; exact H)
     have hji9w : (IntKind.i64.wrap (Yi - 1)) = ji9 := (Xz _).trans hji9
     by_cases c10 : 0 ≤ (ji9)
     ·rw [if_pos c10] at H
      have Vh : decide (0 ≤ (ji9)) = true := decide_eq_true c10; clear c10
      by_cases c11 : (ji9) < (l0.length : Int)
      ·rw [if_pos c11] at H
       have XbL : decide ((ji9) < (l0.length : Int)) = true := decide_eq_true c11; clear c11; replace H := Option.bind_eq_some_iff.mp H; obtain ⟨Xbs, Xmi, H⟩ := H; replace H : (Za.l0 k1 l0 Xq9 Xbs) = some r := H; have A12 := az Xmi; clear Xmi; have H' := az H; clear H
       go_wp2_with (first | ((with_reducible refine Z0 (b := .append) (xs := #[.tmp 22, .tmp 24]) rfl ?_); at_builtin; refine Kd.VV (Kd.int .i64) (w0 := w) w.heap.size rfl (.tmp 22) (.tmp 24) 37 3 (.int .i64 0) 8 rfl Tryz.underlying37 info3 rfl (by decide) (by omega) u5 Xh Yi [.int .i64 Yi] (fun _ => True) (fun _ => False) rfl rfl ?aP (fun _ hk => hk.elim) ?aF ?aO ?aB ?aS ?aL ?_; (case aP => exact rfl); (case aB => exact zb0); (case aF => exact zb89); (case aO => exact zb59); (case aS => exact (XA zb0)); (case aL => have := LMc8.out; omega); intro v435 w13 ho hb hg hat; rw [← Ny434.out] at ho; replace HB := az (hb); have Xmp := az (ho); clear HO_5; clear ho hb hg hat; have XtB : 0 ≤ ((ji9) : Int) := of_decide_eq_true zb3; have XtC : (ji9) < (l0.length : Int) := of_decide_eq_true zb3; obtain ⟨XvN, e437, Xiq, Xir, Xis, Xit, Xiu, Xiv, Xiw, Xix⟩ := Ym HR0.out (ji9) XtB XtC; cases e437; replace Xiq := cb HB Xiq; replace Xir := cb HB Xir; replace Xis := cb HB Xis; replace Xit := cb HB Xit; replace Xiu := cb HB Xiu; replace Xiv := cb HB Xiv; replace Xiw := cb HB Xiw; replace Xix := cb HB Xix; replace XtB := eq_true XtB; replace XtC := eq_true XtC) | ((with_reducible refine Xo (f := 114) rfl ?_); refine Yx (some 21) rfl rfl Tryz.func114 zb6 rfl #[.slice (some XvN) l0.length c0, .int .i64 ((Xa l0 (ji9)).f6)] rfl zb71 ?_; (with_reducible refine (XT.calls k1 _ _ l0 ((Xa l0 (ji9)).f6) Xbs _ ?side1 ?side2 A12.out).mono ?_); (case side1 => exact zb15); (case side2 => exact HC0.out); rintro e w14 ⟨rfl, hb⟩; refine ⟨_, rfl, ?_⟩; replace Xmp := az (Kd.Xr (by (with_reducible repeat (first | apply Kd.Yp | apply Kd.Y0 | apply Kd.YC)); exact Xmp.out) hb); replace HB := az (Xc zb0 hb); (try clear hb); (try clear hb2); (try clear hk); (try clear hi)))
       go_roundg k1
       case measure => have := HK1.out; omega
       case rel => exact ⟨(Xq9), (Xbs), zb5, H', ⟨zb33⟩, ⟨by (with_reducible repeat (first | apply Kd.Yp | apply Kd.Y0 | apply Kd.YC)); exact Xmp.out⟩, ⟨zb0⟩⟩
      ·rw [if_neg c11] at H
       exact absurd H (by simp)
     ·rw [if_neg c10] at H
      exact absurd H (by simp)
    ·rw [if_neg c8] at H
     exact absurd H (by simp)
def ZL.l0 : Nat → List (S76) → Int → List Int → Int → Int → Option (Int)
 | 0, _, _, _, _, _ => none
 | k + 1, x0, x3, x7, x8, x9 => if x9 < x8 then (if 0 ≤ x9 then (if x9 < (x7.length : Int) then ((Za.f k x0 (rd x7 x9)).bind fun Xmq => (ZL.l0 k x0 (wrap64 (x3 + (wrap64 ((Xmq.length : Int) + 1)))) x7 x8 (wrap64 (x9 + 1)))) else (none)) else (none)) else (some x3)
def ZL.f (k : Nat) (l0 : List (S76)) : Option (Int) := (Zf.f k l0).bind fun Us => (ZL.l0 k l0 0 Us (Us.length : Int) 0)
set_option maxHeartbeats 8000000 in
set_option maxRecDepth 100000 in
theorem ZL.calls (k : Nat) (A0 : Option Addr) (c0 : Nat) (l0 : List (S76)) (r : Int) (w : World) (hr0 : Kd.C k76 w A0 l0.length l0) (hc0 : l0.length ≤ c0) (h : ZL.f k l0 = some r) :
 Calls Tryz.prog 82 #[.slice A0 l0.length c0] w fun e w' => e = .returned (.int .i64 r) ∧ Below w.heap.size w w' := by
 have HR0 := az hr0; have HC0 := az hc0; clear hr0 hc0; have HB := az (Below.refl w.heap.size w); have H : ((Zf.f k l0).bind fun Us => (ZL.l0 k l0 0 Us (Us.length : Int) 0)) = some r := h; clear h; replace H := Option.bind_eq_some_iff.mp H; obtain ⟨Us, A20, H⟩ := H; replace H : (ZL.l0 k l0 0 Us (Us.length : Int) 0) = some r := H; have A2 := az A20; clear A20; have H' := az H; clear H
 go_enter Tryz.func82, Tryz.ntmps82
 go_wp2_with (first | ((with_reducible refine Xo (f := 59) rfl ?_); refine Yx (some 7) rfl rfl Tryz.func59 zb6 rfl #[.slice A0 l0.length c0] rfl zb2 ?_; (with_reducible refine (Zf.calls k _ _ l0 Us _ ?side1 ?side2 A2.out).mono ?_); (case side1 => exact zb16); (case side2 => exact HC0.out); rintro e w3 ⟨v440, rfl, ho0, hb⟩; refine ⟨_, rfl, ?_⟩; have Xsk := az (Kd.YY ho0 (XA zb0)); replace HB := az (Xc zb0 hb); (try clear hb); (try clear hb2); (try clear hk); (try clear hi); (try clear ho0); obtain ⟨Ao4, co4, eo4⟩ := Kd.Y2 Xsk.out; subst eo4))
 go_loopg [3, 9] k (fun kq v3 v9 w' => ∃ (Xl : Int) (Nk : Int), v3 = .int .i64 Xl ∧ v9 = .int .i64 Nk ∧ Aside0 (ZL.l0 kq l0 Xl Us (Us.length : Int) Nk = some r) ∧ Aside0 (kq ≤ k) ∧ Aside0 (Kd.R (Kd.int .i64) 3 w' w.heap.size (fun _ => True) (.slice Ao4 Us.length co4) Us) ∧ Aside0 (Below w.heap.size w w'))
 case atStart => exact ⟨(0), (0), zb5, zb5, H', ⟨Nat.le_refl _⟩, ⟨by (with_reducible repeat (first | apply Kd.Yp | apply Kd.Y0 | apply Kd.YC)); exact Xsk.out⟩, ⟨zb0⟩⟩
 case round =>
  clear H';(try clear p2)
  obtain ⟨Xl, Nk, rfl, rfl, HA, HK1, HO_7, HB⟩ := hrel
  cases gk with
  | zero => exact absurd HA.out (by simp [ZL.l0])
  | succ k1 =>
   have H := HA.out; clear HA; simp only [ZL.l0] at H
   by_cases c5 : Nk < (Us.length : Int)
   ·rw [if_pos c5] at H
    have c5b0 : decide (Nk < (Us.length : Int)) = true := decide_eq_true c5; clear c5
    by_cases c6 : 0 ≤ Nk
    ·rw [if_pos c6] at H
     have c6b0 : decide (0 ≤ Nk) = true := decide_eq_true c6; clear c6
     by_cases c7 : Nk < (Us.length : Int)
     ·rw [if_pos c7] at H
      have c7b0 : decide (Nk < (Us.length : Int)) = true := decide_eq_true c7; clear c7; replace H := Option.bind_eq_some_iff.mp H; obtain ⟨Xmq, A80, H⟩ := H; replace H : (ZL.l0 k1 l0 (wrap64 (Xl + (wrap64 ((Xmq.length : Int) + 1)))) Us (Us.length : Int) (wrap64 (Nk + 1))) = some r := H; have A8 := az A80; clear A80; have H' := az H; clear H; have XtD : 0 ≤ (Nk : Int) := of_decide_eq_true zb3; have XtE : Nk < (Us.length : Int) := of_decide_eq_true zb3; obtain ⟨ad442, e442, X0q⟩ := Kd.Jn (Kd.X6 HO_7.out).2.2 Nk XtD XtE
      cases e442
      replace XtD := eq_true XtD; replace XtE := eq_true XtE
      go_wp2_with (first | ((with_reducible refine Xo (f := 103) rfl ?_); refine Yx (some 16) rfl rfl Tryz.func103 zb6 rfl #[.slice A0 l0.length c0, .int .i64 (rd Us Nk)] rfl zb2 ?_; (with_reducible refine (Za.calls k1 _ _ l0 (rd Us Nk) Xmq _ ?side1 ?side2 A8.out).mono ?_); (case side1 => exact zb15); (case side2 => exact HC0.out); rintro e w9 ⟨v444, rfl, ho0, hb⟩; refine ⟨_, rfl, ?_⟩; have XvO := az (Kd.YY (Kd.Pe ho0 (Kd.N7 zb27)) (XA zb0)); replace HO_7 := az (Kd.FV zb27 (Kd.FX ho0) hb); replace HB := az (Xc zb0 hb); (try clear hb); (try clear hb2); (try clear hk); (try clear hi); (try clear ho0); obtain ⟨XeJ, Kw, eo10⟩ := Kd.Y2 XvO.out; subst eo10))
      go_roundg k1
      case measure => have := HK1.out; omega
      case rel => exact ⟨(wrap64 (Xl + (wrap64 ((Xmq.length : Int) + 1)))), (wrap64 (Nk + 1)), zb5, zb5, H', ⟨zb33⟩, ⟨by (with_reducible repeat (first | apply Kd.Yp | apply Kd.Y0 | apply Kd.YC)); exact Kd.XZ HO_7.out (fun _ hk => trivial)⟩, ⟨zb0⟩⟩
     ·rw [if_neg c7] at H
      exact absurd H (by simp)
    ·rw [if_neg c6] at H
     exact absurd H (by simp)
   ·rw [if_neg c5] at H
    have c5b0 : decide (Nk < (Us.length : Int)) = false := decide_eq_false c5; clear c5; obtain rfl := Option.some.inj H
    go_wp2
    go_ret
    exact ⟨zb4, zb0⟩
def Mi.f (k : Nat) (l0 : List (S76)) : Option (Bool) := (ZL.f k l0).bind fun Xkx => (some (decide ((wrap64 ((l0.length : Int) + Xkx)) ≤ 150)))
set_option maxHeartbeats 8000000 in
set_option maxRecDepth 100000 in
theorem Mi.calls (k : Nat) (A0 : Option Addr) (c0 : Nat) (l0 : List (S76)) (r : Bool) (w : World) (hr0 : Kd.C k76 w A0 l0.length l0) (hc0 : l0.length ≤ c0) (h : Mi.f k l0 = some r) :
 Calls Tryz.prog 52 #[.slice A0 l0.length c0] w fun e w' => e = .returned (.bool r) ∧ Below w.heap.size w w' := by
 have HR0 := az hr0; have HC0 := az hc0; clear hr0 hc0; have HB := az (Below.refl w.heap.size w); have H : ((ZL.f k l0).bind fun Xkx => (some (decide ((wrap64 ((l0.length : Int) + Xkx)) ≤ 150)))) = some r := h; clear h; replace H := Option.bind_eq_some_iff.mp H; obtain ⟨Xkx, A20, H⟩ := H; replace H : (some (decide ((wrap64 ((l0.length : Int) + Xkx)) ≤ 150))) = some r := H; have A2 := az A20; clear A20; obtain rfl := Option.some.inj H
 go_enter Tryz.func52, Tryz.ntmps52
 go_wp2_with (first | ((with_reducible refine Xo (f := 82) rfl ?_); refine Yx (some 6) rfl rfl Tryz.func82 zb6 rfl #[.slice A0 l0.length c0] rfl zb2 ?_; (with_reducible refine (ZL.calls k _ _ l0 Xkx _ ?side1 ?side2 A2.out).mono ?_); (case side1 => exact zb16); (case side2 => exact HC0.out); rintro e w3 ⟨rfl, hb⟩; refine ⟨_, rfl, ?_⟩; replace HB := az (Xc zb0 hb); (try clear hb); (try clear hb2); (try clear hk); (try clear hi)))
 go_ret
 exact ⟨zb4, zb0⟩
def Ma.f (Xu : Int) (Xy : Int) (ZM : Int) (Yu : Int) (Yt : Int) (Jk : Int) (ZU : Int) (Js : Int) (a1 : Int) : Option (Int × Int × Int × Int × Int × Int × Int × Int) := some (6, Xy, ZM, Yu, 0, Yt, a1, ZU)
set_option maxHeartbeats 8000000 in
set_option maxRecDepth 100000 in
theorem Ma.calls (Xu : Int) (Xy : Int) (ZM : Int) (Yu : Int) (Yt : Int) (Jk : Int) (ZU : Int) (Js : Int) (a1 : Int) (r1 : Int) (r2 : Int) (r3 : Int) (r4 : Int) (r5 : Int) (r6 : Int) (r7 : Int) (r8 : Int) (w : World) (h : Ma.f Xu Xy ZM Yu Yt Jk ZU Js a1 = some (r1, r2, r3, r4, r5, r6, r7, r8)) :
 Calls Tryz.prog 104 #[.agg #[.int .i64 Xu, .int .i64 Xy, .int .i64 ZM, .int .i64 Yu, .int .i64 Yt, .int .i64 Jk, .int .i64 ZU, .int .i64 Js], .int .i64 a1] w fun e w' => e = .returned (.agg #[.int .i64 r1, .int .i64 r2, .int .i64 r3, .int .i64 r4, .int .i64 r5, .int .i64 r6, .int .i64 r7, .int .i64 r8]) ∧ Below w.heap.size w w' := by
 have hu76 := Tryz.underlying76; have HB := az (Below.refl w.heap.size w); have H : (some (6, Xy, ZM, Yu, 0, Yt, a1, ZU)) = some (r1, r2, r3, r4, r5, r6, r7, r8) := h; clear h; simp only [Option.some.injEq, Prod.mk.injEq] at H; obtain ⟨rfl, rfl, rfl, rfl, rfl, rfl, rfl, rfl⟩ := H
 go_enter Tryz.func104, Tryz.ntmps104
 go_wp2_with (first | ((with_reducible refine Xp (N := 2) rfl ?_); refine Xn ?hg (N := 2) ?hd (cs := #[.int .i64 Xu, .int .i64 Xy, .int .i64 ZM, .int .i64 Yu, .int .i64 Yt, .int .i64 Jk, .int .i64 ZU, .int .i64 Js]) (t := 76) ?hr ?_; (case hd => rfl); (case hg => rfl); (case hr => exact zb7); intro XvP hg w3 hbox hb; have Xcj := az (hbox); have XvQ := az ((zb95 : w.heap.size ≤ XvP)); have GE453 := XvQ; replace HB := az (Xc zb0 hb); clear hb hbox hg) | ((with_reducible refine Xp (N := 4) rfl ?_); refine Xn ?hg (N := 4) ?hd (cs := #[.int .i64 0, .int .i64 0, .int .i64 0, .int .i64 0, .int .i64 0, .int .i64 0, .int .i64 0, .int .i64 0]) (t := 76) ?hr ?_; (case hd => rfl); (case hg => rfl); (case hr => exact zb7); intro Xsl hg w4 hbox hb; have Xiy := az (hbox); have XvR := az ((zb97 : w.heap.size ≤ Xsl)); have GE454 := XvR; replace HB := az (Xc zb1 hb); obtain ⟨Xky, Xkz⟩ := nb Xcj hg (fun h => by (with_reducible repeat (first | apply bn | apply bd | apply ba)); exact h); replace Xcj := bb Xcj (fun h => by (with_reducible repeat (first | apply bn | apply bd | apply ba)); exact h) hb; clear hb hbox hg; have hnb5 := Xky.out; have hnc5 := Xkz.out; obtain ⟨RZ, Ca, Cb, XlC, XlD, Xsx, Xsy, Xsz⟩ := cz8 Xcj; obtain ⟨Cc, Ce, Cf, XlE, XlF, Xs0, Xs1, Xs2⟩ := fz8 Xcj; obtain ⟨XdH, XdI, XdJ, XdK, XdL, XdM, XdN, XdO⟩ := cz8 Xiy; obtain ⟨XdP, XdQ, XdR, XdS, XdT, XdU, XdV⟩ := fz7 Xiy; have XdW := Xe Xiy.out 7))
 refine bodyPost_ret (results_cell_row rfl _ _ Xsl 76 #[.int .i64 6, .int .i64 Xy, .int .i64 ZM, .int .i64 Yu, .int .i64 0, .int .i64 Yt, .int .i64 a1, .int .i64 ZU] (0, 0) _ rfl (by (with_reducible repeat (first | apply bn | apply bd | apply ba)); exact p8 Xiy) Tryz.underlying76 rfl zb6) rfl ?_; exact ⟨zb4, zb1⟩
end Go.Proofs.YtphnphmbfogmlaaGreat.Pr
