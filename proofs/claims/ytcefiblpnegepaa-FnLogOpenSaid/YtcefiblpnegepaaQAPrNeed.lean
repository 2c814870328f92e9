import Derived.Test.YtcefiblpnegepaaQAByq
import Derived.Test.YtcefiblpnegepaaQASq
import Derived.Test.YtcefiblpnegepaaQAWEngA
import Derived.Test.YtcefiblpnegepaaQASx
import Derived.Test.YtcefiblpnegepaaQAPrM
import Derived.Test.YtcefiblpnegepaaQAPrNew
namespace Go.Proofs.Ytcefiblpnegepaa.Pr
open Go.RowKit Go.PW Go.PL Go.PM
attribute [local go_sem] YB YC Zc Zd Yn Yo YD YE
set_option linter.unusedVariables false
set_option linter.unusedSimpArgs false
mutual
def XL.l0 : Nat → List (S41) → Int → Option (Int)
 | 0, _, _ => none
 | k + 1, x0, x1 => if x1 > 0 then (if 0 ≤ (wrap64 (x1 - 1)) then (if (wrap64 (x1 - 1)) < (x0.length : Int) then (if ((Xa x0 (wrap64 (x1 - 1))).f0) = 1 then (XL.j1 k x0 x1 ((Xa x0 (wrap64 (x1 - 1))).f0) (((Xa x0 (wrap64 (x1 - 1))).f0) == 1) ((Xa x0 (wrap64 (x1 - 1))).f0) ((Xa x0 (wrap64 (x1 - 1))).f1) ((Xa x0 (wrap64 (x1 - 1))).f2) ((Xa x0 (wrap64 (x1 - 1))).f3) ((Xa x0 (wrap64 (x1 - 1))).f4) ((Xa x0 (wrap64 (x1 - 1))).f5) ((Xa x0 (wrap64 (x1 - 1))).f6) ((Xa x0 (wrap64 (x1 - 1))).f7)) else (XL.j1 k x0 x1 ((Xa x0 (wrap64 (x1 - 1))).f0) (((Xa x0 (wrap64 (x1 - 1))).f0) == 2) ((Xa x0 (wrap64 (x1 - 1))).f0) ((Xa x0 (wrap64 (x1 - 1))).f1) ((Xa x0 (wrap64 (x1 - 1))).f2) ((Xa x0 (wrap64 (x1 - 1))).f3) ((Xa x0 (wrap64 (x1 - 1))).f4) ((Xa x0 (wrap64 (x1 - 1))).f5) ((Xa x0 (wrap64 (x1 - 1))).f6) ((Xa x0 (wrap64 (x1 - 1))).f7))) else (none)) else (none)) else (some 0)
def XL.j1 : Nat → List (S41) → Int → Int → Bool → Int → Int → Int → Int → Int → Int → Int → Int → Option (Int)
 | 0, _, _, _, _, _, _, _, _, _, _, _, _ => none
 | k + 1, x0, x1, x14, x17, Xt5, Xt6, Xt7, Xt8, Xt9, XtA, XgN, XgO => if x17 = true then (some x1) else (if x14 = 6 then (XL.l0 k x0 XgO) else (XL.l0 k x0 XgN))
end
def XL.f (k : Nat) (l0 : List (S41)) (a1 : Int) : Option (Int) := XL.l0 k l0 a1
set_option maxHeartbeats 8000000 in
set_option maxRecDepth 100000 in
theorem XL.calls (k : Nat) (A0 : Option Addr) (c0 : Nat) (l0 : List (S41)) (a1 : Int) (r : Int) (w : World) (hr0 : Kd.C k41 w A0 l0.length l0) (hc0 : l0.length ≤ c0) (h : XL.f k l0 a1 = some r) :
  Calls Try.prog 165 #[.slice A0 l0.length c0, .int .i64 a1] w fun e w' => e = .returned (.int .i64 r) ∧ Below w.heap.size w w' := by
 have hu41 := Try.underlying41; have HR0 := az hr0; have HC0 := az hc0; clear hr0 hc0; have HB := az (Below.refl w.heap.size w); have H : (XL.l0 k l0 a1) = some r := h; clear h; have H' := az H; clear H
 go_enter Try.func165, Try.ntmps165
 go_wp2
 go_loopg [1] k (fun kq v1 w' => ∃ (Nr : Int), v1 = .int .i64 Nr ∧ Aside0 (XL.l0 kq l0 Nr = some r) ∧ Aside0 (kq ≤ k) ∧ Aside0 (Below w.heap.size w w'))
 case atStart => exact ⟨(a1), zb12, H', ⟨Nat.le_refl _⟩, ⟨zb1⟩⟩
 case round =>
  clear H';(try clear c1);(try clear p2)
  obtain ⟨Nr, rfl, HA, HK1, HB⟩ := hrel
  cases gk with
  | zero => exact absurd HA.out (by simp [XL.l0])
  | succ k1 =>
   have H := HA.out; clear HA; simp only [XL.l0] at H
   by_cases c3 : Nr > 0
   ·rw [if_pos c3] at H
    have c3b0 : decide (0 < Nr) = true := decide_eq_true c3; clear c3
    obtain ⟨ji4, hji4⟩ : ∃ j_ : Int, (wrap64 (Nr - 1)) = j_ := ⟨_, rfl⟩
    replace H : (if 0 ≤ (ji4) then (if (ji4) < (l0.length : Int) then (if ((Xa l0 (ji4)).f0) = 1 then (XL.j1 k1 l0 Nr ((Xa l0 (ji4)).f0) (((Xa l0 (ji4)).f0) == 1) ((Xa l0 (ji4)).f0) ((Xa l0 (ji4)).f1) ((Xa l0 (ji4)).f2) ((Xa l0 (ji4)).f3) ((Xa l0 (ji4)).f4) ((Xa l0 (ji4)).f5) ((Xa l0 (ji4)).f6) ((Xa l0 (ji4)).f7)) else (XL.j1 k1 l0 Nr ((Xa l0 (ji4)).f0) (((Xa l0 (ji4)).f0) == 2) ((Xa l0 (ji4)).f0) ((Xa l0 (ji4)).f1) ((Xa l0 (ji4)).f2) ((Xa l0 (ji4)).f3) ((Xa l0 (ji4)).f4) ((Xa l0 (ji4)).f5) ((Xa l0 (ji4)).f6) ((Xa l0 (ji4)).f7))) else (none)) else (none)) = some r := by first | (rw [hji4] at H; exact H) | (simp only [hji4] at H ⊢; exact H)
    have hji4w : (IntKind.i64.wrap (Nr - 1)) = ji4 := (XB _).trans hji4
    by_cases c5 : 0 ≤ (ji4)
    ·rw [if_pos c5] at H
     have c5b0 : decide (0 ≤ (ji4)) = true := decide_eq_true c5; clear c5
     by_cases c6 : (ji4) < (l0.length : Int)
     ·rw [if_pos c6] at H
      have c6b0 : decide ((ji4) < (l0.length : Int)) = true := decide_eq_true c6; clear c6; have HC7 := az H; clear H; have Xd4 : 0 ≤ ((ji4) : Int) := of_decide_eq_true zb7; have Xd5 : (ji4) < (l0.length : Int) := of_decide_eq_true zb7; obtain ⟨ad1240, XtB, Le, Lf, Lg, Lh, Li, Lj, Ll, Lm⟩ := XV HR0.out (ji4) Xd4 Xd5
      cases XtB
      replace Le := (HB.out.cell (World.block_lt_of_cell? w _ Le)).trans Le; replace Lf := (HB.out.cell (World.block_lt_of_cell? w _ Lf)).trans Lf; replace Lg := (HB.out.cell (World.block_lt_of_cell? w _ Lg)).trans Lg; replace Lh := (HB.out.cell (World.block_lt_of_cell? w _ Lh)).trans Lh; replace Li := (HB.out.cell (World.block_lt_of_cell? w _ Li)).trans Li; replace Lj := (HB.out.cell (World.block_lt_of_cell? w _ Lj)).trans Lj; replace Ll := (HB.out.cell (World.block_lt_of_cell? w _ Ll)).trans Ll; replace Lm := (HB.out.cell (World.block_lt_of_cell? w _ Lm)).trans Lm; replace Xd4 := eq_true Xd4; replace Xd5 := eq_true Xd5
      go_upto_if 17 with (first | ((with_reducible refine XO (N := 5) rfl ?_); refine Y4 ?hg (N := 5) ?hd (cs := #[.int .i64 0, .int .i64 0, .int .i64 0, .int .i64 0, .int .i64 0, .int .i64 0, .int .i64 0, .int .i64 0]) (t := 41) ?hr ?_; (case hd => rfl); (case hg => rfl); (case hr => exact zb22); intro XgP hg w8 hbox hb; have Ns := az (hbox); have Xoc := az ((zb148 : w.heap.size ≤ XgP)); have GE1241 := Xoc; replace HB := az (Xe zb1 hb); clear hb hbox hg; obtain ⟨Xod, Xoe, Xof, Xog, Xoh, Xoi, Xoj, Xok⟩ := cz8 Ns; obtain ⟨Xol, Xom, Xon, Xoo, Xop, Xoq, Xor⟩ := fz7 Ns; have Xos := Xf Ns.out 7))
      (try simp only [Act.put, List.setIfInBounds_toArray, List.set_cons_zero, List.set_cons_succ])
      go_cut [17] (fun v17 wc => ∃ (kq : Nat) (Xd6 : Bool), v17 = .bool Xd6 ∧ Aside0 (XL.j1 kq l0 Nr ((Xa l0 (ji4)).f0) Xd6 ((Xa l0 (ji4)).f0) ((Xa l0 (ji4)).f1) ((Xa l0 (ji4)).f2) ((Xa l0 (ji4)).f3) ((Xa l0 (ji4)).f4) ((Xa l0 (ji4)).f5) ((Xa l0 (ji4)).f6) ((Xa l0 (ji4)).f7) = some r) ∧ Aside0 (kq ≤ k1) ∧ Aside0 (wc.heap[XgP]? = some (.cells #[.int .i64 ((Xa l0 (ji4)).f0), .int .i64 ((Xa l0 (ji4)).f1), .int .i64 ((Xa l0 (ji4)).f2), .int .i64 ((Xa l0 (ji4)).f3), .int .i64 ((Xa l0 (ji4)).f4), .int .i64 ((Xa l0 (ji4)).f5), .int .i64 ((Xa l0 (ji4)).f6), .int .i64 ((Xa l0 (ji4)).f7)] 41 (0, 0))) ∧ Aside0 (Below w.heap.size w wc))
      case first =>
       have H := HC7.out; clear HC7
       by_cases c10 : ((Xa l0 (ji4)).f0) = 1
       ·rw [if_pos c10] at H
        have Fq : (((Xa l0 (ji4)).f0) == 1) = true := beq_iff_eq.mpr c10; have Wy : (((Xa l0 (ji4)).f0) != 1) = false := bne_eq_false_iff_eq.mpr c10; clear c10
        (first | rw [Fq] | (simp only [XB, XK]; rw [Fq]) | skip)
        have H' := az H; clear H
        go_wp2
        go_meet
        case rel => exact ⟨_, ((((Xa l0 (ji4)).f0) == 1)), zb84, H', ⟨zb152⟩, ⟨by (with_reducible repeat (first | apply bn | apply bd | apply ba)); exact p8 Ns⟩, ⟨zb6⟩⟩
       ·rw [if_neg c10] at H
        have Fq : (((Xa l0 (ji4)).f0) == 1) = false := beq_eq_false_iff_ne.mpr c10; have Wy : (((Xa l0 (ji4)).f0) != 1) = true := bne_iff_ne.mpr c10
        (first | rw [Fq] | (simp only [XB, XK]; rw [Fq]) | skip)
        have H' := az H; clear H
        go_wp2
        go_meet
        case rel => exact ⟨_, ((((Xa l0 (ji4)).f0) == 2)), zb84, H', ⟨zb152⟩, ⟨by (with_reducible repeat (first | apply bn | apply bd | apply ba)); exact p8 Ns⟩, ⟨zb6⟩⟩
      case rest =>
       clear HC7;(try clear c1);(try clear p1);(try clear q1);(try clear hx1);(try clear p2);(try clear c3);(try clear c3b0);(try clear c5);(try clear c5b0);(try clear c6);(try clear c6b0);(try clear p6);(try clear c10);(try clear Fq);(try clear Wy);(try clear Xod);(try clear Xoe);(try clear Xof);(try clear Xog);(try clear Xoh);(try clear Xoi);(try clear Xoj);(try clear Xok);(try clear Xol);(try clear Xom);(try clear Xon);(try clear Xoo);(try clear Xop);(try clear Xoq);(try clear Xor);(try clear Xos);(try clear Le);(try clear Lf);(try clear Lg);(try clear Lh);(try clear Li);(try clear Lj);(try clear Ll);(try clear Lm);(try clear Xd4);(try clear p2);(try clear Xd5)
       obtain ⟨kq, Xd6, rfl, HA, HJ6, Ns, HB⟩ := hcut
       cases kq with
       | zero => exact absurd HA.out (by simp [XL.j1])
       | succ kj6 =>
        have H := HA.out; clear HA; simp only [XL.j1] at H
        by_cases c11 : Xd6 = true
        ·subst c11
         have H1 : (some Nr) = some r := by rw [if_pos rfl] at H; exact H
         clear H; have H := H1; clear H1; obtain rfl := Option.some.inj H
         go_wp2
         go_ret
         exact ⟨by first | rfl | (simp [YN, YO] <;> rfl) | (simp only [← hji4]; first | rfl | (simp [YN, YO] <;> rfl)) | (simp [*, YN, YO] <;> rfl), zb6⟩
        ·replace c11 := Bool.eq_false_iff.mpr c11
         subst c11
         have H1 : (if ((Xa l0 (ji4)).f0) = 6 then (XL.l0 kj6 l0 ((Xa l0 (ji4)).f7)) else (XL.l0 kj6 l0 ((Xa l0 (ji4)).f6))) = some r := by rw [if_neg (show ¬ (false = true) by decide)] at H; exact H
         clear H; have H := H1; clear H1
         by_cases c12 : ((Xa l0 (ji4)).f0) = 6
         ·rw [if_pos c12] at H
          have XcV : (((Xa l0 (ji4)).f0) == 6) = true := beq_iff_eq.mpr c12; have XgG : (((Xa l0 (ji4)).f0) != 6) = false := bne_eq_false_iff_eq.mpr c12; clear c12; have H' := az H; clear H; obtain ⟨XcE, XcF, XcG, XcH, XcI, XcJ, XcK, XcL⟩ := cz8 Ns; obtain ⟨XcM, XcN, XcO, XcP, XcQ, XcR, XcS, XcT⟩ := fz8 Ns
          go_wp2
          go_roundg kj6
          case measure => have := HK1.out; have := HJ6.out; omega
          case rel => exact ⟨(((Xa l0 (ji4)).f7)), zb84, H', ⟨by have := HK1.out; have := HJ6.out; omega⟩, ⟨zb6⟩⟩
         ·rw [if_neg c12] at H
          have XcV : (((Xa l0 (ji4)).f0) == 6) = false := beq_eq_false_iff_ne.mpr c12; have XgG : (((Xa l0 (ji4)).f0) != 6) = true := bne_iff_ne.mpr c12; have H' := az H; clear H; obtain ⟨IW, IX, IY, IZ, Qa, X0R, X0S, X0T⟩ := cz8 Ns; obtain ⟨Qb, Qc, Qd, Qe, Qf, X0U, X0V, X0W⟩ := fz8 Ns
          go_wp2
          go_roundg kj6
          case measure => have := HK1.out; have := HJ6.out; omega
          case rel => exact ⟨(((Xa l0 (ji4)).f6)), zb84, H', ⟨by have := HK1.out; have := HJ6.out; omega⟩, ⟨zb6⟩⟩
     ·rw [if_neg c6] at H
      exact absurd H (by simp)
    ·rw [if_neg c5] at H
     exact absurd H (by simp)
   ·rw [if_neg c3] at H
    have c3b0 : decide (0 < Nr) = false := decide_eq_false c3; clear c3; obtain rfl := Option.some.inj H
    go_wp2
    go_ret
    exact ⟨zb8, zb1⟩
mutual
def X3.l0 : Nat → List (S41) → Int → Int → Option (Int)
 | 0, _, _, _ => none
 | k + 1, x0, x3, x4 => if x4 ≤ 3 then ((Xn.f k x0 x4).bind fun MV => (if MV > 0 then (X3.j1 k x0 (wrap64 (x3 + 1)) x4 MV) else (X3.j1 k x0 x3 x4 MV))) else (some x3)
def X3.j1 : Nat → List (S41) → Int → Int → Int → Option (Int)
 | 0, _, _, _, _ => none
 | k + 1, x0, x3, x4, x5 => (XL.f k x0 x5).bind fun XaN => (X3.l1 k x0 x3 x4 XaN)
def X3.l1 : Nat → List (S41) → Int → Int → Int → Option (Int)
 | 0, _, _, _, _ => none
 | k + 1, x0, x3, x4, x5 => if x5 > 0 then (if 0 ≤ (wrap64 (x5 - 1)) then (if (wrap64 (x5 - 1)) < (x0.length : Int) then ((XL.f k x0 ((Xa x0 (wrap64 (x5 - 1))).f6)).bind fun Ej => (X3.l1 k x0 (wrap64 (x3 + 1)) x4 Ej)) else (none)) else (none)) else (X3.l0 k x0 x3 (wrap64 (x4 + 1)))
end
def X3.f (k : Nat) (l0 : List (S41)) : Option (Int) := X3.l0 k l0 0 1
set_option maxHeartbeats 8000000 in
set_option maxRecDepth 100000 in
theorem X3.calls (k : Nat) (A0 : Option Addr) (c0 : Nat) (l0 : List (S41)) (r : Int) (w : World) (hr0 : Kd.C k41 w A0 l0.length l0) (hc0 : l0.length ≤ c0) (h : X3.f k l0 = some r) :
  Calls Try.prog 164 #[.slice A0 l0.length c0] w fun e w' => e = .returned (.int .i64 r) ∧ Below w.heap.size w w' := by
 have HR0 := az hr0; have HC0 := az hc0; clear hr0 hc0; have HB := az (Below.refl w.heap.size w); have H : (X3.l0 k l0 0 1) = some r := h; clear h; have H' := az H; clear H
 go_enter Try.func164, Try.ntmps164
 go_wp2
 go_loopg [3, 4] k (fun kq v3 v4 w' => ∃ (Xv : Int) (ZG : Int), v3 = .int .i64 Xv ∧ v4 = .int .i64 ZG ∧ Aside0 (X3.l0 kq l0 Xv ZG = some r) ∧ Aside0 (kq ≤ k) ∧ Aside0 (Below w.heap.size w w'))
 case atStart => exact ⟨(0), (1), zb12, zb12, H', ⟨Nat.le_refl _⟩, ⟨zb1⟩⟩
 case round =>
  clear H';(try clear c1)
  obtain ⟨Xv, ZG, rfl, rfl, HA, HK1, HB⟩ := hrel
  cases gk with
  | zero => exact absurd HA.out (by simp [X3.l0])
  | succ k1 =>
   have H := HA.out; clear HA; simp only [X3.l0] at H
   by_cases c2 : ZG ≤ 3
   ·rw [if_pos c2] at H
    have c2b0 : decide (ZG ≤ 3) = true := decide_eq_true c2; clear c2; replace H := Option.bind_eq_some_iff.mp H; obtain ⟨MV, A30, H⟩ := H; replace H : (if MV > 0 then (X3.j1 k1 l0 (wrap64 (Xv + 1)) ZG MV) else (X3.j1 k1 l0 Xv ZG MV)) = some r := H; have A3 := az A30; clear A30; have HC4 := az H; clear H
    go_upto_if 14 with (first | ((with_reducible refine Xg (f := 84) rfl ?_); refine Xz (some 12) rfl rfl Try.func84 zb14 rfl #[.slice A0 l0.length c0, .int .i64 ZG] rfl zb0 ?_; (with_reducible refine (Xn.calls k1 _ _ l0 ZG MV _ ?side1 ?side2 A3.out).mono ?_); (case side1 => exact zb15); (case side2 => exact HC0.out); rintro e w' ⟨rfl, ⟨nd, rfl⟩⟩; refine ⟨_, rfl, ?_⟩))
    (try simp only [Act.put, List.setIfInBounds_toArray, List.set_cons_zero, List.set_cons_succ])
    go_cut [3] (fun v3 wc => ∃ (kq : Nat) (Ta : Int), v3 = .int .i64 Ta ∧ Aside0 (X3.j1 kq l0 Ta ZG MV = some r) ∧ Aside0 (kq ≤ k1) ∧ Aside0 (Below w.heap.size w wc))
    case first =>
     have H := HC4.out; clear HC4
     by_cases c5 : MV > 0
     ·rw [if_pos c5] at H
      have c5b0 : decide (0 < MV) = true := decide_eq_true c5; clear c5
      (first | rw [c5b0] | (simp only [XB, XK]; rw [c5b0]) | skip)
      have H' := az H; clear H
      go_wp2
      go_meet
      case rel => exact ⟨_, (wrap64 (Xv + 1)), zb12, H', ⟨zb152⟩, ⟨zb1⟩⟩
     ·rw [if_neg c5] at H
      have c5b0 : decide (0 < MV) = false := decide_eq_false c5; clear c5
      (first | rw [c5b0] | (simp only [XB, XK]; rw [c5b0]) | skip)
      have H' := az H; clear H
      go_wp2
      go_meet
      case rel => exact ⟨_, (Xv), zb12, H', ⟨zb152⟩, ⟨zb1⟩⟩
    case rest =>
     clear HC4;(try clear c1);(try clear c2);(try clear c2b0);(try clear p2);(try clear c5);(try clear c5b0)
     obtain ⟨kq, Ta, rfl, HA, HJ3, HB⟩ := hcut
     cases kq with
     | zero => exact absurd HA.out (by simp [X3.j1])
     | succ kj3 =>
      have H := HA.out; clear HA; simp only [X3.j1] at H; replace H := Option.bind_eq_some_iff.mp H; obtain ⟨XaN, A60, H⟩ := H; replace H : (X3.l1 kj3 l0 Ta ZG XaN) = some r := H; have A6 := az A60; clear A60; have H' := az H; clear H
      go_wp2_with (first | ((with_reducible refine Xg (f := 165) rfl ?_); refine Xz (some 19) rfl rfl Try.func165 zb14 rfl #[.slice A0 l0.length c0, .int .i64 MV] rfl zb0 ?_; (with_reducible refine (XL.calls kj3 _ _ l0 MV XaN _ ?side1 ?side2 A6.out).mono ?_); (case side1 => exact zb15); (case side2 => exact HC0.out); rintro e w7 ⟨rfl, hb⟩; refine ⟨_, rfl, ?_⟩; replace HB := az (Xe zb1 hb); (try clear hb); (try clear hb2); (try clear hk); (try clear hi)))
      go_loopg [3, 5] kj3 (fun kq v3 v5 w' => ∃ (Ta : Int) (XaO : Int), v3 = .int .i64 Ta ∧ v5 = .int .i64 XaO ∧ Aside0 (X3.l1 kq l0 Ta ZG XaO = some r) ∧ Aside0 (kq ≤ kj3) ∧ Aside0 (Below w.heap.size w w'))
      case atStart => exact ⟨(Ta), (XaN), zb12, zb12, H', ⟨Nat.le_refl _⟩, ⟨zb1⟩⟩
      case round =>
       clear H';(try clear c1);(try clear c2);(try clear c2b0);(try clear p2);(try clear c5);(try clear c5b0);(try clear p6);(try clear p2)
       obtain ⟨Ta, XaO, rfl, rfl, HA, HK3, HB⟩ := hrel
       cases gk with
       | zero => exact absurd HA.out (by simp [X3.l1])
       | succ k3 =>
        have H := HA.out; clear HA; simp only [X3.l1] at H
        by_cases c8 : XaO > 0
        ·rw [if_pos c8] at H
         have c8b0 : decide (0 < XaO) = true := decide_eq_true c8; clear c8
         obtain ⟨ji9, hji9⟩ : ∃ j_ : Int, (wrap64 (XaO - 1)) = j_ := ⟨_, rfl⟩
         replace H : (if 0 ≤ (ji9) then (if (ji9) < (l0.length : Int) then ((XL.f k3 l0 ((Xa l0 (ji9)).f6)).bind fun Ej => (X3.l1 k3 l0 (wrap64 (Ta + 1)) ZG Ej)) else (none)) else (none)) = some r := by first | (rw [hji9] at H; exact H) | (simp only [hji9] at H ⊢; exact H)
         have hji9w : (IntKind.i64.wrap (XaO - 1)) = ji9 := (XB _).trans hji9
         by_cases c10 : 0 ≤ (ji9)
         ·rw [if_pos c10] at H
          have Fq : decide (0 ≤ (ji9)) = true := decide_eq_true c10; clear c10
          by_cases c11 : (ji9) < (l0.length : Int)
          ·rw [if_pos c11] at H
           have Xgq : decide ((ji9) < (l0.length : Int)) = true := decide_eq_true c11; clear c11; replace H := Option.bind_eq_some_iff.mp H; obtain ⟨Ej, BP, H⟩ := H; replace H : (X3.l1 k3 l0 (wrap64 (Ta + 1)) ZG Ej) = some r := H; have A12 := az BP; clear BP; have H' := az H; clear H; have XgQ : 0 ≤ ((ji9) : Int) := of_decide_eq_true zb7; have XgR : (ji9) < (l0.length : Int) := of_decide_eq_true zb7; obtain ⟨Xot, XtC, El, Em, En, Eo, Ep, Er, Es, Et⟩ := XV HR0.out (ji9) XgQ XgR
           cases XtC
           replace El := (HB.out.cell (World.block_lt_of_cell? w _ El)).trans El; replace Em := (HB.out.cell (World.block_lt_of_cell? w _ Em)).trans Em; replace En := (HB.out.cell (World.block_lt_of_cell? w _ En)).trans En; replace Eo := (HB.out.cell (World.block_lt_of_cell? w _ Eo)).trans Eo; replace Ep := (HB.out.cell (World.block_lt_of_cell? w _ Ep)).trans Ep; replace Er := (HB.out.cell (World.block_lt_of_cell? w _ Er)).trans Er; replace Es := (HB.out.cell (World.block_lt_of_cell? w _ Es)).trans Es; replace Et := (HB.out.cell (World.block_lt_of_cell? w _ Et)).trans Et; replace XgQ := eq_true XgQ; replace XgR := eq_true XgR
           go_wp2_with (first | ((with_reducible refine Xg (f := 165) rfl ?_); refine Xz (some 29) rfl rfl Try.func165 zb14 rfl #[.slice (some Xot) l0.length c0, .int .i64 ((Xa l0 (ji9)).f6)] rfl (by (try simp only [List.map_toArray, List.map_cons, List.map_nil]); first | done | (simp only [hji9]; rfl) | rfl | (simp only [List.length_drop, List.length_take]; rfl)) ?_; (with_reducible refine (XL.calls k3 _ _ l0 ((Xa l0 (ji9)).f6) Ej _ ?side1 ?side2 A12.out).mono ?_); (case side1 => exact zb15); (case side2 => exact HC0.out); rintro e w13 ⟨rfl, hb⟩; refine ⟨_, rfl, ?_⟩; replace HB := az (Xe zb1 hb); (try clear hb); (try clear hb2); (try clear hk); (try clear hi)))
           go_roundg k3
           case measure => have := HK1.out; have := HJ3.out; have := HK3.out; omega
           case rel => exact ⟨(wrap64 (Ta + 1)), (Ej), zb12, zb12, H', ⟨by have := HK1.out; have := HJ3.out; have := HK3.out; omega⟩, ⟨zb1⟩⟩
          ·rw [if_neg c11] at H
           exact absurd H (by simp)
         ·rw [if_neg c10] at H
          exact absurd H (by simp)
        ·rw [if_neg c8] at H
         have c8b0 : decide (0 < XaO) = false := decide_eq_false c8; clear c8; have H' := az H; clear H
         go_wp2
         go_roundg k3
         case measure => have := HK1.out; have := HJ3.out; have := HK3.out; omega
         case rel => exact ⟨(Ta), (wrap64 (ZG + 1)), zb12, zb12, H', ⟨by have := HK1.out; have := HJ3.out; have := HK3.out; omega⟩, ⟨zb1⟩⟩
   ·rw [if_neg c2] at H
    have c2b0 : decide (ZG ≤ 3) = false := decide_eq_false c2; clear c2; obtain rfl := Option.some.inj H
    go_wp2
    go_ret
    exact ⟨zb8, zb1⟩
end Go.Proofs.Ytcefiblpnegepaa.Pr
