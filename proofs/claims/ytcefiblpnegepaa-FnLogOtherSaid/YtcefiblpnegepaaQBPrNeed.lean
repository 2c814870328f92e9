import Derived.Test.YtcefiblpnegepaaQBByq
import Derived.Test.YtcefiblpnegepaaQBSq
import Derived.Test.YtcefiblpnegepaaQBWEngA
import Derived.Test.YtcefiblpnegepaaQBSx
import Derived.Test.YtcefiblpnegepaaQBPrM
import Derived.Test.YtcefiblpnegepaaQBPrNew
namespace Go.Proofs.Ytcefiblpnegepaa.Pr
open Go.RowKit Go.PW Go.PL Go.PM
attribute [local go_sem] Y3 Y4 YV YW Yk Yl Y5 Y6
set_option linter.unusedVariables false
set_option linter.unusedSimpArgs false
mutual
def XU.l0 : Nat → List (S41) → Int → Option (Int)
 | 0, _, _ => none
 | k + 1, x0, x1 => if x1 > 0 then (if 0 ≤ (wrap64 (x1 - 1)) then (if (wrap64 (x1 - 1)) < (x0.length : Int) then (if ((Xa x0 (wrap64 (x1 - 1))).f0) = 1 then (XU.j1 k x0 x1 ((Xa x0 (wrap64 (x1 - 1))).f0) (((Xa x0 (wrap64 (x1 - 1))).f0) == 1) ((Xa x0 (wrap64 (x1 - 1))).f0) ((Xa x0 (wrap64 (x1 - 1))).f1) ((Xa x0 (wrap64 (x1 - 1))).f2) ((Xa x0 (wrap64 (x1 - 1))).f3) ((Xa x0 (wrap64 (x1 - 1))).f4) ((Xa x0 (wrap64 (x1 - 1))).f5) ((Xa x0 (wrap64 (x1 - 1))).f6) ((Xa x0 (wrap64 (x1 - 1))).f7)) else (XU.j1 k x0 x1 ((Xa x0 (wrap64 (x1 - 1))).f0) (((Xa x0 (wrap64 (x1 - 1))).f0) == 2) ((Xa x0 (wrap64 (x1 - 1))).f0) ((Xa x0 (wrap64 (x1 - 1))).f1) ((Xa x0 (wrap64 (x1 - 1))).f2) ((Xa x0 (wrap64 (x1 - 1))).f3) ((Xa x0 (wrap64 (x1 - 1))).f4) ((Xa x0 (wrap64 (x1 - 1))).f5) ((Xa x0 (wrap64 (x1 - 1))).f6) ((Xa x0 (wrap64 (x1 - 1))).f7))) else (none)) else (none)) else (some 0)
def XU.j1 : Nat → List (S41) → Int → Int → Bool → Int → Int → Int → Int → Int → Int → Int → Int → Option (Int)
 | 0, _, _, _, _, _, _, _, _, _, _, _, _ => none
 | k + 1, x0, x1, x14, x17, XsZ, Xta, Xtb, Xtc, Xtd, Xte, Xgu, Xgv => if x17 = true then (some x1) else (if x14 = 6 then (XU.l0 k x0 Xgv) else (XU.l0 k x0 Xgu))
end
def XU.f (k : Nat) (l0 : List (S41)) (a1 : Int) : Option (Int) := XU.l0 k l0 a1
set_option maxHeartbeats 8000000 in
set_option maxRecDepth 100000 in
theorem XU.calls (k : Nat) (A0 : Option Addr) (c0 : Nat) (l0 : List (S41)) (a1 : Int) (r : Int) (w : World) (hr0 : Kd.C k41 w A0 l0.length l0) (hc0 : l0.length ≤ c0) (h : XU.f k l0 a1 = some r) :
  Calls Try.prog 165 #[.slice A0 l0.length c0, .int .i64 a1] w fun e w' => e = .returned (.int .i64 r) ∧ Below w.heap.size w w' := by
 have hu41 := Try.underlying41; have HR0 := az hr0; have HC0 := az hc0; clear hr0 hc0; have HB := az (Below.refl w.heap.size w); have H : (XU.l0 k l0 a1) = some r := h; clear h; have H' := az H; clear H
 go_enter Try.func165, Try.ntmps165
 go_wp2
 go_loopg [1] k (fun kq v1 w' => ∃ (Ns : Int), v1 = .int .i64 Ns ∧ Aside0 (XU.l0 kq l0 Ns = some r) ∧ Aside0 (kq ≤ k) ∧ Aside0 (Below w.heap.size w w'))
 case atStart => exact ⟨(a1), zb12, H', ⟨Nat.le_refl _⟩, ⟨zb1⟩⟩
 case round =>
  clear H';(try clear c1);(try clear p2)
  obtain ⟨Ns, rfl, HA, HK1, HB⟩ := hrel
  cases gk with
  | zero => exact absurd HA.out (by simp [XU.l0])
  | succ k1 =>
   have H := HA.out; clear HA; simp only [XU.l0] at H
   by_cases c3 : Ns > 0
   ·rw [if_pos c3] at H
    have c3b0 : decide (0 < Ns) = true := decide_eq_true c3; clear c3
    obtain ⟨ji4, hji4⟩ : ∃ j_ : Int, (wrap64 (Ns - 1)) = j_ := ⟨_, rfl⟩
    replace H : (if 0 ≤ (ji4) then (if (ji4) < (l0.length : Int) then (if ((Xa l0 (ji4)).f0) = 1 then (XU.j1 k1 l0 Ns ((Xa l0 (ji4)).f0) (((Xa l0 (ji4)).f0) == 1) ((Xa l0 (ji4)).f0) ((Xa l0 (ji4)).f1) ((Xa l0 (ji4)).f2) ((Xa l0 (ji4)).f3) ((Xa l0 (ji4)).f4) ((Xa l0 (ji4)).f5) ((Xa l0 (ji4)).f6) ((Xa l0 (ji4)).f7)) else (XU.j1 k1 l0 Ns ((Xa l0 (ji4)).f0) (((Xa l0 (ji4)).f0) == 2) ((Xa l0 (ji4)).f0) ((Xa l0 (ji4)).f1) ((Xa l0 (ji4)).f2) ((Xa l0 (ji4)).f3) ((Xa l0 (ji4)).f4) ((Xa l0 (ji4)).f5) ((Xa l0 (ji4)).f6) ((Xa l0 (ji4)).f7))) else (none)) else (none)) = some r := by first | (rw [hji4] at H; exact H) | (simp only [hji4] at H ⊢; exact H)
    have hji4w : (IntKind.i64.wrap (Ns - 1)) = ji4 := (XG _).trans hji4
    by_cases c5 : 0 ≤ (ji4)
    ·rw [if_pos c5] at H
     have c5b0 : decide (0 ≤ (ji4)) = true := decide_eq_true c5; clear c5
     by_cases c6 : (ji4) < (l0.length : Int)
     ·rw [if_pos c6] at H
      have c6b0 : decide ((ji4) < (l0.length : Int)) = true := decide_eq_true c6; clear c6; have HC7 := az H; clear H; have XcV : 0 ≤ ((ji4) : Int) := of_decide_eq_true zb9; have XcW : (ji4) < (l0.length : Int) := of_decide_eq_true zb9; obtain ⟨ad1240, Xtf, K7, K8, K9, KA, KC, KE, KF, KG⟩ := YN HR0.out (ji4) XcV XcW
      cases Xtf
      replace K7 := (HB.out.cell (World.block_lt_of_cell? w _ K7)).trans K7; replace K8 := (HB.out.cell (World.block_lt_of_cell? w _ K8)).trans K8; replace K9 := (HB.out.cell (World.block_lt_of_cell? w _ K9)).trans K9; replace KA := (HB.out.cell (World.block_lt_of_cell? w _ KA)).trans KA; replace KC := (HB.out.cell (World.block_lt_of_cell? w _ KC)).trans KC; replace KE := (HB.out.cell (World.block_lt_of_cell? w _ KE)).trans KE; replace KF := (HB.out.cell (World.block_lt_of_cell? w _ KF)).trans KF; replace KG := (HB.out.cell (World.block_lt_of_cell? w _ KG)).trans KG; replace XcV := eq_true XcV; replace XcW := eq_true XcW
      go_upto_if 17 with (first | ((with_reducible refine XZ (N := 5) rfl ?_); refine YL ?hg (N := 5) ?hd (cs := #[.int .i64 0, .int .i64 0, .int .i64 0, .int .i64 0, .int .i64 0, .int .i64 0, .int .i64 0, .int .i64 0]) (t := 41) ?hr ?_; (case hd => rfl); (case hg => rfl); (case hr => exact zb21); intro Xgw hg w8 hbox hb; have Nt := az (hbox); have Xnw := az ((zb150 : w.heap.size ≤ Xgw)); have GE1241 := Xnw; replace HB := az (Xe zb1 hb); clear hb hbox hg; obtain ⟨Xnx, Xny, Xnz, Xn0, Xn1, Xn2, Xn3, Xn4⟩ := cz8 Nt; obtain ⟨Xn5, Xn6, Xn7, Xn8, Xn9, XnA, XnB⟩ := fz7 Nt; have XnC := Xf Nt.out 7))
      (try simp only [Act.put, List.setIfInBounds_toArray, List.set_cons_zero, List.set_cons_succ])
      go_cut [17] (fun v17 wc => ∃ (kq : Nat) (XcX : Bool), v17 = .bool XcX ∧ Aside0 (XU.j1 kq l0 Ns ((Xa l0 (ji4)).f0) XcX ((Xa l0 (ji4)).f0) ((Xa l0 (ji4)).f1) ((Xa l0 (ji4)).f2) ((Xa l0 (ji4)).f3) ((Xa l0 (ji4)).f4) ((Xa l0 (ji4)).f5) ((Xa l0 (ji4)).f6) ((Xa l0 (ji4)).f7) = some r) ∧ Aside0 (kq ≤ k1) ∧ Aside0 (wc.heap[Xgw]? = some (.cells #[.int .i64 ((Xa l0 (ji4)).f0), .int .i64 ((Xa l0 (ji4)).f1), .int .i64 ((Xa l0 (ji4)).f2), .int .i64 ((Xa l0 (ji4)).f3), .int .i64 ((Xa l0 (ji4)).f4), .int .i64 ((Xa l0 (ji4)).f5), .int .i64 ((Xa l0 (ji4)).f6), .int .i64 ((Xa l0 (ji4)).f7)] 41 (0, 0))) ∧ Aside0 (Below w.heap.size w wc))
      case first =>
       have H := HC7.out; clear HC7
       by_cases c10 : ((Xa l0 (ji4)).f0) = 1
       ·rw [if_pos c10] at H
        have MN : (((Xa l0 (ji4)).f0) == 1) = true := beq_iff_eq.mpr c10; have Be : (((Xa l0 (ji4)).f0) != 1) = false := bne_eq_false_iff_eq.mpr c10; clear c10
        (first | rw [MN] | (simp only [XG, XW]; rw [MN]) | skip)
        have H' := az H; clear H
        go_wp2
        go_meet
        case rel => exact ⟨_, ((((Xa l0 (ji4)).f0) == 1)), zb88, H', ⟨zb154⟩, ⟨by (with_reducible repeat (first | apply bn | apply bd | apply ba)); exact p8 Nt⟩, ⟨zb6⟩⟩
       ·rw [if_neg c10] at H
        have MN : (((Xa l0 (ji4)).f0) == 1) = false := beq_eq_false_iff_ne.mpr c10; have Be : (((Xa l0 (ji4)).f0) != 1) = true := bne_iff_ne.mpr c10
        (first | rw [MN] | (simp only [XG, XW]; rw [MN]) | skip)
        have H' := az H; clear H
        go_wp2
        go_meet
        case rel => exact ⟨_, ((((Xa l0 (ji4)).f0) == 2)), zb88, H', ⟨zb154⟩, ⟨by (with_reducible repeat (first | apply bn | apply bd | apply ba)); exact p8 Nt⟩, ⟨zb6⟩⟩
      case rest =>
       clear HC7;(try clear c1);(try clear p1);(try clear q1);(try clear hx1);(try clear p2);(try clear c3);(try clear c3b0);(try clear c5);(try clear c5b0);(try clear c6);(try clear c6b0);(try clear p6);(try clear c10);(try clear MN);(try clear Be);(try clear Xnx);(try clear Xny);(try clear Xnz);(try clear Xn0);(try clear Xn1);(try clear Xn2);(try clear Xn3);(try clear Xn4);(try clear Xn5);(try clear Xn6);(try clear Xn7);(try clear Xn8);(try clear Xn9);(try clear XnA);(try clear XnB);(try clear XnC);(try clear K7);(try clear K8);(try clear K9);(try clear KA);(try clear KC);(try clear KE);(try clear KF);(try clear KG);(try clear XcV);(try clear p2);(try clear XcW)
       obtain ⟨kq, XcX, rfl, HA, HJ6, Nt, HB⟩ := hcut
       cases kq with
       | zero => exact absurd HA.out (by simp [XU.j1])
       | succ kj6 =>
        have H := HA.out; clear HA; simp only [XU.j1] at H
        by_cases c11 : XcX = true
        ·subst c11
         have H1 : (some Ns) = some r := by rw [if_pos rfl] at H; exact H
         clear H; have H := H1; clear H1; obtain rfl := Option.some.inj H
         go_wp2
         go_ret
         exact ⟨by first | rfl | (simp [Zz, Z0] <;> rfl) | (simp only [← hji4]; first | rfl | (simp [Zz, Z0] <;> rfl)) | (simp [*, Zz, Z0] <;> rfl), zb6⟩
        ·replace c11 := Bool.eq_false_iff.mpr c11
         subst c11
         have H1 : (if ((Xa l0 (ji4)).f0) = 6 then (XU.l0 kj6 l0 ((Xa l0 (ji4)).f7)) else (XU.l0 kj6 l0 ((Xa l0 (ji4)).f6))) = some r := by rw [if_neg (show ¬ (false = true) by decide)] at H; exact H
         clear H; have H := H1; clear H1
         by_cases c12 : ((Xa l0 (ji4)).f0) = 6
         ·rw [if_pos c12] at H
          have QG : (((Xa l0 (ji4)).f0) == 6) = true := beq_iff_eq.mpr c12; have Xgn : (((Xa l0 (ji4)).f0) != 6) = false := bne_eq_false_iff_eq.mpr c12; clear c12; have H' := az H; clear H; obtain ⟨Xcn, Xco, Xcp, Xcq, Xcr, Xcs, Xct, Xcu⟩ := cz8 Nt; obtain ⟨Xcv, Xcw, Xcx, Xcy, Xcz, Xc0, Xc1, Xc2⟩ := fz8 Nt
          go_wp2
          go_roundg kj6
          case measure => have := HK1.out; have := HJ6.out; omega
          case rel => exact ⟨(((Xa l0 (ji4)).f7)), zb88, H', ⟨by have := HK1.out; have := HJ6.out; omega⟩, ⟨zb6⟩⟩
         ·rw [if_neg c12] at H
          have QG : (((Xa l0 (ji4)).f0) == 6) = false := beq_eq_false_iff_ne.mpr c12; have Xgn : (((Xa l0 (ji4)).f0) != 6) = true := bne_iff_ne.mpr c12; have H' := az H; clear H; obtain ⟨Ic, Ie, Ig, Ih, Ii, X0c, X0d, X0e⟩ := cz8 Nt; obtain ⟨Ij, Ik, Il, Im, Io, X0f, X0g, X0h⟩ := fz8 Nt
          go_wp2
          go_roundg kj6
          case measure => have := HK1.out; have := HJ6.out; omega
          case rel => exact ⟨(((Xa l0 (ji4)).f6)), zb88, H', ⟨by have := HK1.out; have := HJ6.out; omega⟩, ⟨zb6⟩⟩
     ·rw [if_neg c6] at H
      exact absurd H (by simp)
    ·rw [if_neg c5] at H
     exact absurd H (by simp)
   ·rw [if_neg c3] at H
    have c3b0 : decide (0 < Ns) = false := decide_eq_false c3; clear c3; obtain rfl := Option.some.inj H
    go_wp2
    go_ret
    exact ⟨zb11, zb1⟩
mutual
def X8.l0 : Nat → List (S41) → Int → Int → Option (Int)
 | 0, _, _, _ => none
 | k + 1, x0, x3, x4 => if x4 ≤ 3 then ((Xu.f k x0 x4).bind fun MX => (if MX > 0 then (X8.j1 k x0 (wrap64 (x3 + 1)) x4 MX) else (X8.j1 k x0 x3 x4 MX))) else (some x3)
def X8.j1 : Nat → List (S41) → Int → Int → Int → Option (Int)
 | 0, _, _, _, _ => none
 | k + 1, x0, x3, x4, x5 => (XU.f k x0 x5).bind fun Xaq => (X8.l1 k x0 x3 x4 Xaq)
def X8.l1 : Nat → List (S41) → Int → Int → Int → Option (Int)
 | 0, _, _, _, _ => none
 | k + 1, x0, x3, x4, x5 => if x5 > 0 then (if 0 ≤ (wrap64 (x5 - 1)) then (if (wrap64 (x5 - 1)) < (x0.length : Int) then ((XU.f k x0 ((Xa x0 (wrap64 (x5 - 1))).f6)).bind fun Bq => (X8.l1 k x0 (wrap64 (x3 + 1)) x4 Bq)) else (none)) else (none)) else (X8.l0 k x0 x3 (wrap64 (x4 + 1)))
end
def X8.f (k : Nat) (l0 : List (S41)) : Option (Int) := X8.l0 k l0 0 1
set_option maxHeartbeats 8000000 in
set_option maxRecDepth 100000 in
theorem X8.calls (k : Nat) (A0 : Option Addr) (c0 : Nat) (l0 : List (S41)) (r : Int) (w : World) (hr0 : Kd.C k41 w A0 l0.length l0) (hc0 : l0.length ≤ c0) (h : X8.f k l0 = some r) :
  Calls Try.prog 164 #[.slice A0 l0.length c0] w fun e w' => e = .returned (.int .i64 r) ∧ Below w.heap.size w w' := by
 have HR0 := az hr0; have HC0 := az hc0; clear hr0 hc0; have HB := az (Below.refl w.heap.size w); have H : (X8.l0 k l0 0 1) = some r := h; clear h; have H' := az H; clear H
 go_enter Try.func164, Try.ntmps164
 go_wp2
 go_loopg [3, 4] k (fun kq v3 v4 w' => ∃ (X5 : Int) (J7 : Int), v3 = .int .i64 X5 ∧ v4 = .int .i64 J7 ∧ Aside0 (X8.l0 kq l0 X5 J7 = some r) ∧ Aside0 (kq ≤ k) ∧ Aside0 (Below w.heap.size w w'))
 case atStart => exact ⟨(0), (1), zb12, zb12, H', ⟨Nat.le_refl _⟩, ⟨zb1⟩⟩
 case round =>
  clear H';(try clear c1)
  obtain ⟨X5, J7, rfl, rfl, HA, HK1, HB⟩ := hrel
  cases gk with
  | zero => exact absurd HA.out (by simp [X8.l0])
  | succ k1 =>
   have H := HA.out; clear HA; simp only [X8.l0] at H
   by_cases c2 : J7 ≤ 3
   ·rw [if_pos c2] at H
    have c2b0 : decide (J7 ≤ 3) = true := decide_eq_true c2; clear c2; replace H := Option.bind_eq_some_iff.mp H; obtain ⟨MX, A30, H⟩ := H; replace H : (if MX > 0 then (X8.j1 k1 l0 (wrap64 (X5 + 1)) J7 MX) else (X8.j1 k1 l0 X5 J7 MX)) = some r := H; have A3 := az A30; clear A30; have HC4 := az H; clear H
    go_upto_if 14 with (first | ((with_reducible refine Xg (f := 84) rfl ?_); refine X6 (some 12) rfl rfl Try.func84 zb13 rfl #[.slice A0 l0.length c0, .int .i64 J7] rfl zb0 ?_; (with_reducible refine (Xu.calls k1 _ _ l0 J7 MX _ ?side1 ?side2 A3.out).mono ?_); (case side1 => exact zb16); (case side2 => exact HC0.out); rintro e w' ⟨rfl, ⟨nd, rfl⟩⟩; refine ⟨_, rfl, ?_⟩))
    (try simp only [Act.put, List.setIfInBounds_toArray, List.set_cons_zero, List.set_cons_succ])
    go_cut [3] (fun v3 wc => ∃ (kq : Nat) (Lr : Int), v3 = .int .i64 Lr ∧ Aside0 (X8.j1 kq l0 Lr J7 MX = some r) ∧ Aside0 (kq ≤ k1) ∧ Aside0 (Below w.heap.size w wc))
    case first =>
     have H := HC4.out; clear HC4
     by_cases c5 : MX > 0
     ·rw [if_pos c5] at H
      have c5b0 : decide (0 < MX) = true := decide_eq_true c5; clear c5
      (first | rw [c5b0] | (simp only [XG, XW]; rw [c5b0]) | skip)
      have H' := az H; clear H
      go_wp2
      go_meet
      case rel => exact ⟨_, (wrap64 (X5 + 1)), zb12, H', ⟨zb154⟩, ⟨zb1⟩⟩
     ·rw [if_neg c5] at H
      have c5b0 : decide (0 < MX) = false := decide_eq_false c5; clear c5
      (first | rw [c5b0] | (simp only [XG, XW]; rw [c5b0]) | skip)
      have H' := az H; clear H
      go_wp2
      go_meet
      case rel => exact ⟨_, (X5), zb12, H', ⟨zb154⟩, ⟨zb1⟩⟩
    case rest =>
     clear HC4;(try clear c1);(try clear c2);(try clear c2b0);(try clear p2);(try clear c5);(try clear c5b0)
     obtain ⟨kq, Lr, rfl, HA, HJ3, HB⟩ := hcut
     cases kq with
     | zero => exact absurd HA.out (by simp [X8.j1])
     | succ kj3 =>
      have H := HA.out; clear HA; simp only [X8.j1] at H; replace H := Option.bind_eq_some_iff.mp H; obtain ⟨Xaq, A60, H⟩ := H; replace H : (X8.l1 kj3 l0 Lr J7 Xaq) = some r := H; have A6 := az A60; clear A60; have H' := az H; clear H
      go_wp2_with (first | ((with_reducible refine Xg (f := 165) rfl ?_); refine X6 (some 19) rfl rfl Try.func165 zb13 rfl #[.slice A0 l0.length c0, .int .i64 MX] rfl zb0 ?_; (with_reducible refine (XU.calls kj3 _ _ l0 MX Xaq _ ?side1 ?side2 A6.out).mono ?_); (case side1 => exact zb16); (case side2 => exact HC0.out); rintro e w7 ⟨rfl, hb⟩; refine ⟨_, rfl, ?_⟩; replace HB := az (Xe zb1 hb); (try clear hb); (try clear hb2); (try clear hk); (try clear hi)))
      go_loopg [3, 5] kj3 (fun kq v3 v5 w' => ∃ (Lr : Int) (Xar : Int), v3 = .int .i64 Lr ∧ v5 = .int .i64 Xar ∧ Aside0 (X8.l1 kq l0 Lr J7 Xar = some r) ∧ Aside0 (kq ≤ kj3) ∧ Aside0 (Below w.heap.size w w'))
      case atStart => exact ⟨(Lr), (Xaq), zb12, zb12, H', ⟨Nat.le_refl _⟩, ⟨zb1⟩⟩
      case round =>
       clear H';(try clear c1);(try clear c2);(try clear c2b0);(try clear p2);(try clear c5);(try clear c5b0);(try clear p6);(try clear p2)
       obtain ⟨Lr, Xar, rfl, rfl, HA, HK3, HB⟩ := hrel
       cases gk with
       | zero => exact absurd HA.out (by simp [X8.l1])
       | succ k3 =>
        have H := HA.out; clear HA; simp only [X8.l1] at H
        by_cases c8 : Xar > 0
        ·rw [if_pos c8] at H
         have c8b0 : decide (0 < Xar) = true := decide_eq_true c8; clear c8
         obtain ⟨ji9, hji9⟩ : ∃ j_ : Int, (wrap64 (Xar - 1)) = j_ := ⟨_, rfl⟩
         replace H : (if 0 ≤ (ji9) then (if (ji9) < (l0.length : Int) then ((XU.f k3 l0 ((Xa l0 (ji9)).f6)).bind fun Bq => (X8.l1 k3 l0 (wrap64 (Lr + 1)) J7 Bq)) else (none)) else (none)) = some r := by first | (rw [hji9] at H; exact H) | (simp only [hji9] at H ⊢; exact H)
         have hji9w : (IntKind.i64.wrap (Xar - 1)) = ji9 := (XG _).trans hji9
         by_cases c10 : 0 ≤ (ji9)
         ·rw [if_pos c10] at H
          have MN : decide (0 ≤ (ji9)) = true := decide_eq_true c10; clear c10
          by_cases c11 : (ji9) < (l0.length : Int)
          ·rw [if_pos c11] at H
           have Xcb : decide ((ji9) < (l0.length : Int)) = true := decide_eq_true c11; clear c11; replace H := Option.bind_eq_some_iff.mp H; obtain ⟨Bq, CY, H⟩ := H; replace H : (X8.l1 k3 l0 (wrap64 (Lr + 1)) J7 Bq) = some r := H; have A12 := az CY; clear CY; have H' := az H; clear H; have Xgx : 0 ≤ ((ji9) : Int) := of_decide_eq_true zb9; have Xgy : (ji9) < (l0.length : Int) := of_decide_eq_true zb9; obtain ⟨XnD, Xtg, Br, Bt, Bu, Bv, Bw, Bz, BA, BB⟩ := YN HR0.out (ji9) Xgx Xgy
           cases Xtg
           replace Br := (HB.out.cell (World.block_lt_of_cell? w _ Br)).trans Br; replace Bt := (HB.out.cell (World.block_lt_of_cell? w _ Bt)).trans Bt; replace Bu := (HB.out.cell (World.block_lt_of_cell? w _ Bu)).trans Bu; replace Bv := (HB.out.cell (World.block_lt_of_cell? w _ Bv)).trans Bv; replace Bw := (HB.out.cell (World.block_lt_of_cell? w _ Bw)).trans Bw; replace Bz := (HB.out.cell (World.block_lt_of_cell? w _ Bz)).trans Bz; replace BA := (HB.out.cell (World.block_lt_of_cell? w _ BA)).trans BA; replace BB := (HB.out.cell (World.block_lt_of_cell? w _ BB)).trans BB; replace Xgx := eq_true Xgx; replace Xgy := eq_true Xgy
           go_wp2_with (first | ((with_reducible refine Xg (f := 165) rfl ?_); refine X6 (some 29) rfl rfl Try.func165 zb13 rfl #[.slice (some XnD) l0.length c0, .int .i64 ((Xa l0 (ji9)).f6)] rfl (by (try simp only [List.map_toArray, List.map_cons, List.map_nil]); first | done | (simp only [hji9]; rfl) | rfl | (simp only [List.length_drop, List.length_take]; rfl)) ?_; (with_reducible refine (XU.calls k3 _ _ l0 ((Xa l0 (ji9)).f6) Bq _ ?side1 ?side2 A12.out).mono ?_); (case side1 => exact zb16); (case side2 => exact HC0.out); rintro e w13 ⟨rfl, hb⟩; refine ⟨_, rfl, ?_⟩; replace HB := az (Xe zb1 hb); (try clear hb); (try clear hb2); (try clear hk); (try clear hi)))
           go_roundg k3
           case measure => have := HK1.out; have := HJ3.out; have := HK3.out; omega
           case rel => exact ⟨(wrap64 (Lr + 1)), (Bq), zb12, zb12, H', ⟨by have := HK1.out; have := HJ3.out; have := HK3.out; omega⟩, ⟨zb1⟩⟩
          ·rw [if_neg c11] at H
           exact absurd H (by simp)
         ·rw [if_neg c10] at H
          exact absurd H (by simp)
        ·rw [if_neg c8] at H
         have c8b0 : decide (0 < Xar) = false := decide_eq_false c8; clear c8; have H' := az H; clear H
         go_wp2
         go_roundg k3
         case measure => have := HK1.out; have := HJ3.out; have := HK3.out; omega
         case rel => exact ⟨(Lr), (wrap64 (J7 + 1)), zb12, zb12, H', ⟨by have := HK1.out; have := HJ3.out; have := HK3.out; omega⟩, ⟨zb1⟩⟩
   ·rw [if_neg c2] at H
    have c2b0 : decide (J7 ≤ 3) = false := decide_eq_false c2; clear c2; obtain rfl := Option.some.inj H
    go_wp2
    go_ret
    exact ⟨zb11, zb1⟩
end Go.Proofs.Ytcefiblpnegepaa.Pr
