import Derived.Test.YtcefiblpnegepaaQByq
import Derived.Test.YtcefiblpnegepaaQPrK
import Derived.Test.YtcefiblpnegepaaQPrM
import Derived.Test.YtcefiblpnegepaaQWEngA
import Derived.Test.YtcefiblpnegepaaQPrLogA
import Derived.Test.YtcefiblpnegepaaQSq
namespace Go.Proofs.Ytcefiblpnegepaa.Pr
open Go.RowKit Go.Proofs.YtcefiblpnegepaaW.PrintWords Go.Proofs.YtcefiblpnegepaaW.PrintLast Go.Proofs.YtcefiblpnegepaaW.PrintMore
attribute [local go_sem] max2_int min2_int max_two min_two max_three min_three max_four min_four
set_option linter.unusedVariables false
set_option linter.unusedSimpArgs false
mutual
def spec_l11Back.l0 : Nat → List (S41) → Int → Option (Int)
 | 0, _, _ => none
 | k + 1, x0, x1 => if x1 > 0 then (if 0 ≤ (wrap64 (x1 - 1)) then (if (wrap64 (x1 - 1)) < (x0.length : Int) then (if ((rd_T41 x0 (wrap64 (x1 - 1))).f0) = 1 then (spec_l11Back.j1 k x0 x1 ((rd_T41 x0 (wrap64 (x1 - 1))).f0) (((rd_T41 x0 (wrap64 (x1 - 1))).f0) == 1) ((rd_T41 x0 (wrap64 (x1 - 1))).f0) ((rd_T41 x0 (wrap64 (x1 - 1))).f1) ((rd_T41 x0 (wrap64 (x1 - 1))).f2) ((rd_T41 x0 (wrap64 (x1 - 1))).f3) ((rd_T41 x0 (wrap64 (x1 - 1))).f4) ((rd_T41 x0 (wrap64 (x1 - 1))).f5) ((rd_T41 x0 (wrap64 (x1 - 1))).f6) ((rd_T41 x0 (wrap64 (x1 - 1))).f7)) else (spec_l11Back.j1 k x0 x1 ((rd_T41 x0 (wrap64 (x1 - 1))).f0) (((rd_T41 x0 (wrap64 (x1 - 1))).f0) == 2) ((rd_T41 x0 (wrap64 (x1 - 1))).f0) ((rd_T41 x0 (wrap64 (x1 - 1))).f1) ((rd_T41 x0 (wrap64 (x1 - 1))).f2) ((rd_T41 x0 (wrap64 (x1 - 1))).f3) ((rd_T41 x0 (wrap64 (x1 - 1))).f4) ((rd_T41 x0 (wrap64 (x1 - 1))).f5) ((rd_T41 x0 (wrap64 (x1 - 1))).f6) ((rd_T41 x0 (wrap64 (x1 - 1))).f7))) else (none)) else (none)) else (some 0)
def spec_l11Back.j1 : Nat → List (S41) → Int → Int → Bool → Int → Int → Int → Int → Int → Int → Int → Int → Option (Int)
 | 0, _, _, _, _, _, _, _, _, _, _, _, _ => none
 | k + 1, x0, x1, x14, x17, x1242000, x1242001, x1242002, x1242003, x1242004, x1242005, x1242006, x1242007 => if x17 = true then (some x1) else (if x14 = 6 then (spec_l11Back.l0 k x0 x1242007) else (spec_l11Back.l0 k x0 x1242006))
end
def spec_l11Back.f (k : Nat) (l0 : List (S41)) (a1 : Int) : Option (Int) := spec_l11Back.l0 k l0 a1
set_option maxHeartbeats 8000000 in
set_option maxRecDepth 100000 in
theorem spec_l11Back.calls (k : Nat) (A0 : Option Addr) (c0 : Nat) (l0 : List (S41)) (a1 : Int) (r : Int) (w : World) (hr0 : Kd.C k41 w A0 l0.length l0) (hc0 : l0.length ≤ c0) (h : spec_l11Back.f k l0 a1 = some r) :
  Calls Try.prog 165 #[.slice A0 l0.length c0, .int .i64 a1] w fun e w' => e = .returned (.int .i64 r) ∧ Below w.heap.size w w' := by
 have hu41 := Try.underlying41; have HR0 := az hr0; have HC0 := az hc0; clear hr0 hc0; have HB := az (Below.refl w.heap.size w); have H : (spec_l11Back.l0 k l0 a1) = some r := h; clear h; have H' := az H; clear H
 go_enter Try.func165, Try.ntmps165
 go_wp2
 go_loopg [1] k (fun kq v1 w' => ∃ (x1_1 : Int), v1 = .int .i64 x1_1 ∧ Aside0 (spec_l11Back.l0 kq l0 x1_1 = some r) ∧ Aside0 (kq ≤ k) ∧ Aside0 (Below w.heap.size w w'))
 case atStart => exact ⟨(a1), zb15, H', ⟨Nat.le_refl _⟩, ⟨zb7⟩⟩
 case round =>
  clear H';(try clear c1);(try clear p2)
  obtain ⟨x1_1, rfl, HA, HK1, HB⟩ := hrel
  cases gk with
  | zero => exact absurd HA.out (by simp [spec_l11Back.l0])
  | succ k1 =>
   have H := HA.out; clear HA; simp only [spec_l11Back.l0] at H
   by_cases c3 : x1_1 > 0
   ·rw [if_pos c3] at H
    have c3b0 : decide (0 < x1_1) = true := decide_eq_true c3; clear c3
    obtain ⟨ji4, hji4⟩ : ∃ j_ : Int, (wrap64 (x1_1 - 1)) = j_ := ⟨_, rfl⟩
    replace H : (if 0 ≤ (ji4) then (if (ji4) < (l0.length : Int) then (if ((rd_T41 l0 (ji4)).f0) = 1 then (spec_l11Back.j1 k1 l0 x1_1 ((rd_T41 l0 (ji4)).f0) (((rd_T41 l0 (ji4)).f0) == 1) ((rd_T41 l0 (ji4)).f0) ((rd_T41 l0 (ji4)).f1) ((rd_T41 l0 (ji4)).f2) ((rd_T41 l0 (ji4)).f3) ((rd_T41 l0 (ji4)).f4) ((rd_T41 l0 (ji4)).f5) ((rd_T41 l0 (ji4)).f6) ((rd_T41 l0 (ji4)).f7)) else (spec_l11Back.j1 k1 l0 x1_1 ((rd_T41 l0 (ji4)).f0) (((rd_T41 l0 (ji4)).f0) == 2) ((rd_T41 l0 (ji4)).f0) ((rd_T41 l0 (ji4)).f1) ((rd_T41 l0 (ji4)).f2) ((rd_T41 l0 (ji4)).f3) ((rd_T41 l0 (ji4)).f4) ((rd_T41 l0 (ji4)).f5) ((rd_T41 l0 (ji4)).f6) ((rd_T41 l0 (ji4)).f7))) else (none)) else (none)) = some r := by first | (rw [hji4] at H; exact H) | (simp only [hji4] at H ⊢; exact H)
    have hji4w : (IntKind.i64.wrap (x1_1 - 1)) = ji4 := (i64_w _).trans hji4
    by_cases c5 : 0 ≤ (ji4)
    ·rw [if_pos c5] at H
     have c5b0 : decide (0 ≤ (ji4)) = true := decide_eq_true c5; clear c5
     by_cases c6 : (ji4) < (l0.length : Int)
     ·rw [if_pos c6] at H
      have c6b0 : decide ((ji4) < (l0.length : Int)) = true := decide_eq_true c6; clear c6; have HC7 := az H; clear H; have p1240 : 0 ≤ ((ji4) : Int) := of_decide_eq_true zb10; have q1240 : (ji4) < (l0.length : Int) := of_decide_eq_true zb10; obtain ⟨ad1240, e1240, hx1240_0, hx1240_1, hx1240_2, hx1240_3, hx1240_4, hx1240_5, hx1240_6, hx1240_7⟩ := at_T41 HR0.out (ji4) p1240 q1240
      cases e1240
      replace hx1240_0 := (HB.out.cell (World.block_lt_of_cell? w _ hx1240_0)).trans hx1240_0; replace hx1240_1 := (HB.out.cell (World.block_lt_of_cell? w _ hx1240_1)).trans hx1240_1; replace hx1240_2 := (HB.out.cell (World.block_lt_of_cell? w _ hx1240_2)).trans hx1240_2; replace hx1240_3 := (HB.out.cell (World.block_lt_of_cell? w _ hx1240_3)).trans hx1240_3; replace hx1240_4 := (HB.out.cell (World.block_lt_of_cell? w _ hx1240_4)).trans hx1240_4; replace hx1240_5 := (HB.out.cell (World.block_lt_of_cell? w _ hx1240_5)).trans hx1240_5; replace hx1240_6 := (HB.out.cell (World.block_lt_of_cell? w _ hx1240_6)).trans hx1240_6; replace hx1240_7 := (HB.out.cell (World.block_lt_of_cell? w _ hx1240_7)).trans hx1240_7; replace p1240 := eq_true p1240; replace q1240 := eq_true q1240
      go_upto_if 17 with (first | ((with_reducible refine gate_dst (N := 5) rfl ?_); refine box_event ?hg (N := 5) ?hd (cs := #[.int .i64 0, .int .i64 0, .int .i64 0, .int .i64 0, .int .i64 0, .int .i64 0, .int .i64 0, .int .i64 0]) (t := 41) ?hr ?_; (case hd => rfl); (case hg => rfl); (case hr => exact zb20); intro gb1241 hg w8 hbox hb; have BK1241 := az (hbox); have GW1241 := az ((zb106 : w.heap.size ≤ gb1241)); have GE1241 := GW1241; replace HB := az (below_step zb7 hb); clear hb hbox hg; obtain ⟨hcz9_0, hcz9_1, hcz9_2, hcz9_3, hcz9_4, hcz9_5, hcz9_6, hcz9_7⟩ := cz8 BK1241; obtain ⟨hfz9_0, hfz9_1, hfz9_2, hfz9_3, hfz9_4, hfz9_5, hfz9_6⟩ := fz7 BK1241; have hfz9_7 := blk_frozen BK1241.out 7))
      (try simp only [Act.put, List.setIfInBounds_toArray, List.set_cons_zero, List.set_cons_succ])
      go_cut [17] (fun v17 wc => ∃ (kq : Nat) (x17_6 : Bool), v17 = .bool x17_6 ∧ Aside0 (spec_l11Back.j1 kq l0 x1_1 ((rd_T41 l0 (ji4)).f0) x17_6 ((rd_T41 l0 (ji4)).f0) ((rd_T41 l0 (ji4)).f1) ((rd_T41 l0 (ji4)).f2) ((rd_T41 l0 (ji4)).f3) ((rd_T41 l0 (ji4)).f4) ((rd_T41 l0 (ji4)).f5) ((rd_T41 l0 (ji4)).f6) ((rd_T41 l0 (ji4)).f7) = some r) ∧ Aside0 (kq ≤ k1) ∧ Aside0 (wc.heap[gb1241]? = some (.cells #[.int .i64 ((rd_T41 l0 (ji4)).f0), .int .i64 ((rd_T41 l0 (ji4)).f1), .int .i64 ((rd_T41 l0 (ji4)).f2), .int .i64 ((rd_T41 l0 (ji4)).f3), .int .i64 ((rd_T41 l0 (ji4)).f4), .int .i64 ((rd_T41 l0 (ji4)).f5), .int .i64 ((rd_T41 l0 (ji4)).f6), .int .i64 ((rd_T41 l0 (ji4)).f7)] 41 (0, 0))) ∧ Aside0 (Below w.heap.size w wc))
      case first =>
       have H := HC7.out; clear HC7
       by_cases c10 : ((rd_T41 l0 (ji4)).f0) = 1
       ·rw [if_pos c10] at H
        have c10b0 : (((rd_T41 l0 (ji4)).f0) == 1) = true := beq_iff_eq.mpr c10; have c10b1 : (((rd_T41 l0 (ji4)).f0) != 1) = false := bne_eq_false_iff_eq.mpr c10; clear c10
        (first | rw [c10b0] | (simp only [i64_w, i32_w]; rw [c10b0]) | skip)
        have H' := az H; clear H
        go_wp2
        go_meet
        case rel => exact ⟨_, ((((rd_T41 l0 (ji4)).f0) == 1)), zb62, H', ⟨zb109⟩, ⟨by (with_reducible repeat (first | apply bn | apply bd | apply ba)); exact p8 BK1241⟩, ⟨zb4⟩⟩
       ·rw [if_neg c10] at H
        have c10b0 : (((rd_T41 l0 (ji4)).f0) == 1) = false := beq_eq_false_iff_ne.mpr c10; have c10b1 : (((rd_T41 l0 (ji4)).f0) != 1) = true := bne_iff_ne.mpr c10
        (first | rw [c10b0] | (simp only [i64_w, i32_w]; rw [c10b0]) | skip)
        have H' := az H; clear H
        go_wp2
        go_meet
        case rel => exact ⟨_, ((((rd_T41 l0 (ji4)).f0) == 2)), zb62, H', ⟨zb109⟩, ⟨by (with_reducible repeat (first | apply bn | apply bd | apply ba)); exact p8 BK1241⟩, ⟨zb4⟩⟩
      case rest =>
       clear HC7;(try clear c1);(try clear p1);(try clear q1);(try clear hx1);(try clear p2);(try clear c3);(try clear c3b0);(try clear c5);(try clear c5b0);(try clear c6);(try clear c6b0);(try clear p6);(try clear c10);(try clear c10b0);(try clear c10b1);(try clear hcz9_0);(try clear hcz9_1);(try clear hcz9_2);(try clear hcz9_3);(try clear hcz9_4);(try clear hcz9_5);(try clear hcz9_6);(try clear hcz9_7);(try clear hfz9_0);(try clear hfz9_1);(try clear hfz9_2);(try clear hfz9_3);(try clear hfz9_4);(try clear hfz9_5);(try clear hfz9_6);(try clear hfz9_7);(try clear hx1240_0);(try clear hx1240_1);(try clear hx1240_2);(try clear hx1240_3);(try clear hx1240_4);(try clear hx1240_5);(try clear hx1240_6);(try clear hx1240_7);(try clear p1240);(try clear p2);(try clear q1240)
       obtain ⟨kq, x17_6, rfl, HA, HJ6, BK1241, HB⟩ := hcut
       cases kq with
       | zero => exact absurd HA.out (by simp [spec_l11Back.j1])
       | succ kj6 =>
        have H := HA.out; clear HA; simp only [spec_l11Back.j1] at H
        by_cases c11 : x17_6 = true
        ·subst c11
         have H1 : (some x1_1) = some r := by rw [if_pos rfl] at H; exact H
         clear H; have H := H1; clear H1; obtain rfl := Option.some.inj H
         go_wp2
         go_ret
         exact ⟨by first | rfl | (simp [errW_none, errW_some] <;> rfl) | (simp only [← hji4]; first | rfl | (simp [errW_none, errW_some] <;> rfl)) | (simp [*, errW_none, errW_some] <;> rfl), zb4⟩
        ·replace c11 := Bool.eq_false_iff.mpr c11
         subst c11
         have H1 : (if ((rd_T41 l0 (ji4)).f0) = 6 then (spec_l11Back.l0 kj6 l0 ((rd_T41 l0 (ji4)).f7)) else (spec_l11Back.l0 kj6 l0 ((rd_T41 l0 (ji4)).f6))) = some r := by rw [if_neg (show ¬ (false = true) by decide)] at H; exact H
         clear H; have H := H1; clear H1
         by_cases c12 : ((rd_T41 l0 (ji4)).f0) = 6
         ·rw [if_pos c12] at H
          have c12b0 : (((rd_T41 l0 (ji4)).f0) == 6) = true := beq_iff_eq.mpr c12; have c12b1 : (((rd_T41 l0 (ji4)).f0) != 6) = false := bne_eq_false_iff_eq.mpr c12; clear c12; have H' := az H; clear H; obtain ⟨hcz13_0, hcz13_1, hcz13_2, hcz13_3, hcz13_4, hcz13_5, hcz13_6, hcz13_7⟩ := cz8 BK1241; obtain ⟨hfz13_0, hfz13_1, hfz13_2, hfz13_3, hfz13_4, hfz13_5, hfz13_6, hfz13_7⟩ := fz8 BK1241
          go_wp2
          go_roundg kj6
          case measure => have := HK1.out; have := HJ6.out; omega
          case rel => exact ⟨(((rd_T41 l0 (ji4)).f7)), zb62, H', ⟨by have := HK1.out; have := HJ6.out; omega⟩, ⟨zb4⟩⟩
         ·rw [if_neg c12] at H
          have c12b0 : (((rd_T41 l0 (ji4)).f0) == 6) = false := beq_eq_false_iff_ne.mpr c12; have c12b1 : (((rd_T41 l0 (ji4)).f0) != 6) = true := bne_iff_ne.mpr c12; have H' := az H; clear H; obtain ⟨hcz14_0, hcz14_1, hcz14_2, hcz14_3, hcz14_4, hcz14_5, hcz14_6, hcz14_7⟩ := cz8 BK1241; obtain ⟨hfz14_0, hfz14_1, hfz14_2, hfz14_3, hfz14_4, hfz14_5, hfz14_6, hfz14_7⟩ := fz8 BK1241
          go_wp2
          go_roundg kj6
          case measure => have := HK1.out; have := HJ6.out; omega
          case rel => exact ⟨(((rd_T41 l0 (ji4)).f6)), zb62, H', ⟨by have := HK1.out; have := HJ6.out; omega⟩, ⟨zb4⟩⟩
     ·rw [if_neg c6] at H
      exact absurd H (by simp)
    ·rw [if_neg c5] at H
     exact absurd H (by simp)
   ·rw [if_neg c3] at H
    have c3b0 : decide (0 < x1_1) = false := decide_eq_false c3; clear c3; obtain rfl := Option.some.inj H
    go_wp2
    go_ret
    exact ⟨zb11, zb7⟩
mutual
def spec_l11Need.l0 : Nat → List (S41) → Int → Int → Option (Int)
 | 0, _, _, _ => none
 | k + 1, x0, x3, x4 => if x4 ≤ 3 then ((spec_l3Last.f k x0 x4).bind fun t1242 => (if t1242 > 0 then (spec_l11Need.j1 k x0 (wrap64 (x3 + 1)) x4 t1242) else (spec_l11Need.j1 k x0 x3 x4 t1242))) else (some x3)
def spec_l11Need.j1 : Nat → List (S41) → Int → Int → Int → Option (Int)
 | 0, _, _, _, _ => none
 | k + 1, x0, x3, x4, x5 => (spec_l11Back.f k x0 x5).bind fun t1243 => (spec_l11Need.l1 k x0 x3 x4 t1243)
def spec_l11Need.l1 : Nat → List (S41) → Int → Int → Int → Option (Int)
 | 0, _, _, _, _ => none
 | k + 1, x0, x3, x4, x5 => if x5 > 0 then (if 0 ≤ (wrap64 (x5 - 1)) then (if (wrap64 (x5 - 1)) < (x0.length : Int) then ((spec_l11Back.f k x0 ((rd_T41 x0 (wrap64 (x5 - 1))).f6)).bind fun t1245 => (spec_l11Need.l1 k x0 (wrap64 (x3 + 1)) x4 t1245)) else (none)) else (none)) else (spec_l11Need.l0 k x0 x3 (wrap64 (x4 + 1)))
end
def spec_l11Need.f (k : Nat) (l0 : List (S41)) : Option (Int) := spec_l11Need.l0 k l0 0 1
set_option maxHeartbeats 8000000 in
set_option maxRecDepth 100000 in
theorem spec_l11Need.calls (k : Nat) (A0 : Option Addr) (c0 : Nat) (l0 : List (S41)) (r : Int) (w : World) (hr0 : Kd.C k41 w A0 l0.length l0) (hc0 : l0.length ≤ c0) (h : spec_l11Need.f k l0 = some r) :
  Calls Try.prog 164 #[.slice A0 l0.length c0] w fun e w' => e = .returned (.int .i64 r) ∧ Below w.heap.size w w' := by
 have HR0 := az hr0; have HC0 := az hc0; clear hr0 hc0; have HB := az (Below.refl w.heap.size w); have H : (spec_l11Need.l0 k l0 0 1) = some r := h; clear h; have H' := az H; clear H
 go_enter Try.func164, Try.ntmps164
 go_wp2
 go_loopg [3, 4] k (fun kq v3 v4 w' => ∃ (x3_1 : Int) (x4_1 : Int), v3 = .int .i64 x3_1 ∧ v4 = .int .i64 x4_1 ∧ Aside0 (spec_l11Need.l0 kq l0 x3_1 x4_1 = some r) ∧ Aside0 (kq ≤ k) ∧ Aside0 (Below w.heap.size w w'))
 case atStart => exact ⟨(0), (1), zb15, zb15, H', ⟨Nat.le_refl _⟩, ⟨zb7⟩⟩
 case round =>
  clear H';(try clear c1)
  obtain ⟨x3_1, x4_1, rfl, rfl, HA, HK1, HB⟩ := hrel
  cases gk with
  | zero => exact absurd HA.out (by simp [spec_l11Need.l0])
  | succ k1 =>
   have H := HA.out; clear HA; simp only [spec_l11Need.l0] at H
   by_cases c2 : x4_1 ≤ 3
   ·rw [if_pos c2] at H
    have c2b0 : decide (x4_1 ≤ 3) = true := decide_eq_true c2; clear c2; replace H := Option.bind_eq_some_iff.mp H; obtain ⟨t1242, A30, H⟩ := H; replace H : (if t1242 > 0 then (spec_l11Need.j1 k1 l0 (wrap64 (x3_1 + 1)) x4_1 t1242) else (spec_l11Need.j1 k1 l0 x3_1 x4_1 t1242)) = some r := H; have A3 := az A30; clear A30; have HC4 := az H; clear H
    go_upto_if 14 with (first | ((with_reducible refine gate_callee (f := 84) rfl ?_); refine goesL_ (some 12) rfl rfl Try.func84 zb14 rfl #[.slice A0 l0.length c0, .int .i64 x4_1] rfl zb3 ?_; (with_reducible refine (spec_l3Last.calls k1 _ _ l0 x4_1 t1242 _ ?side1 ?side2 A3.out).mono ?_); (case side1 => exact zb50); (case side2 => exact HC0.out); rintro e w' ⟨rfl, ⟨nd, rfl⟩⟩; refine ⟨_, rfl, ?_⟩))
    (try simp only [Act.put, List.setIfInBounds_toArray, List.set_cons_zero, List.set_cons_succ])
    go_cut [3] (fun v3 wc => ∃ (kq : Nat) (x3_3 : Int), v3 = .int .i64 x3_3 ∧ Aside0 (spec_l11Need.j1 kq l0 x3_3 x4_1 t1242 = some r) ∧ Aside0 (kq ≤ k1) ∧ Aside0 (Below w.heap.size w wc))
    case first =>
     have H := HC4.out; clear HC4
     by_cases c5 : t1242 > 0
     ·rw [if_pos c5] at H
      have c5b0 : decide (0 < t1242) = true := decide_eq_true c5; clear c5
      (first | rw [c5b0] | (simp only [i64_w, i32_w]; rw [c5b0]) | skip)
      have H' := az H; clear H
      go_wp2
      go_meet
      case rel => exact ⟨_, (wrap64 (x3_1 + 1)), zb15, H', ⟨zb109⟩, ⟨zb7⟩⟩
     ·rw [if_neg c5] at H
      have c5b0 : decide (0 < t1242) = false := decide_eq_false c5; clear c5
      (first | rw [c5b0] | (simp only [i64_w, i32_w]; rw [c5b0]) | skip)
      have H' := az H; clear H
      go_wp2
      go_meet
      case rel => exact ⟨_, (x3_1), zb15, H', ⟨zb109⟩, ⟨zb7⟩⟩
    case rest =>
     clear HC4;(try clear c1);(try clear c2);(try clear c2b0);(try clear p2);(try clear c5);(try clear c5b0)
     obtain ⟨kq, x3_3, rfl, HA, HJ3, HB⟩ := hcut
     cases kq with
     | zero => exact absurd HA.out (by simp [spec_l11Need.j1])
     | succ kj3 =>
      have H := HA.out; clear HA; simp only [spec_l11Need.j1] at H; replace H := Option.bind_eq_some_iff.mp H; obtain ⟨t1243, A60, H⟩ := H; replace H : (spec_l11Need.l1 kj3 l0 x3_3 x4_1 t1243) = some r := H; have A6 := az A60; clear A60; have H' := az H; clear H
      go_wp2_with (first | ((with_reducible refine gate_callee (f := 165) rfl ?_); refine goesL_ (some 19) rfl rfl Try.func165 zb14 rfl #[.slice A0 l0.length c0, .int .i64 t1242] rfl zb3 ?_; (with_reducible refine (spec_l11Back.calls kj3 _ _ l0 t1242 t1243 _ ?side1 ?side2 A6.out).mono ?_); (case side1 => exact zb50); (case side2 => exact HC0.out); rintro e w7 ⟨rfl, hb⟩; refine ⟨_, rfl, ?_⟩; replace HB := az (below_step zb7 hb); (try clear hb); (try clear hb2); (try clear hk); (try clear hi)))
      go_loopg [3, 5] kj3 (fun kq v3 v5 w' => ∃ (x3_3 : Int) (x5_3 : Int), v3 = .int .i64 x3_3 ∧ v5 = .int .i64 x5_3 ∧ Aside0 (spec_l11Need.l1 kq l0 x3_3 x4_1 x5_3 = some r) ∧ Aside0 (kq ≤ kj3) ∧ Aside0 (Below w.heap.size w w'))
      case atStart => exact ⟨(x3_3), (t1243), zb15, zb15, H', ⟨Nat.le_refl _⟩, ⟨zb7⟩⟩
      case round =>
       clear H';(try clear c1);(try clear c2);(try clear c2b0);(try clear p2);(try clear c5);(try clear c5b0);(try clear p6);(try clear p2)
       obtain ⟨x3_3, x5_3, rfl, rfl, HA, HK3, HB⟩ := hrel
       cases gk with
       | zero => exact absurd HA.out (by simp [spec_l11Need.l1])
       | succ k3 =>
        have H := HA.out; clear HA; simp only [spec_l11Need.l1] at H
        by_cases c8 : x5_3 > 0
        ·rw [if_pos c8] at H
         have c8b0 : decide (0 < x5_3) = true := decide_eq_true c8; clear c8
         obtain ⟨ji9, hji9⟩ : ∃ j_ : Int, (wrap64 (x5_3 - 1)) = j_ := ⟨_, rfl⟩
         replace H : (if 0 ≤ (ji9) then (if (ji9) < (l0.length : Int) then ((spec_l11Back.f k3 l0 ((rd_T41 l0 (ji9)).f6)).bind fun t1245 => (spec_l11Need.l1 k3 l0 (wrap64 (x3_3 + 1)) x4_1 t1245)) else (none)) else (none)) = some r := by first | (rw [hji9] at H; exact H) | (simp only [hji9] at H ⊢; exact H)
         have hji9w : (IntKind.i64.wrap (x5_3 - 1)) = ji9 := (i64_w _).trans hji9
         by_cases c10 : 0 ≤ (ji9)
         ·rw [if_pos c10] at H
          have c10b0 : decide (0 ≤ (ji9)) = true := decide_eq_true c10; clear c10
          by_cases c11 : (ji9) < (l0.length : Int)
          ·rw [if_pos c11] at H
           have c11b0 : decide ((ji9) < (l0.length : Int)) = true := decide_eq_true c11; clear c11; replace H := Option.bind_eq_some_iff.mp H; obtain ⟨t1245, A120, H⟩ := H; replace H : (spec_l11Need.l1 k3 l0 (wrap64 (x3_3 + 1)) x4_1 t1245) = some r := H; have A12 := az A120; clear A120; have H' := az H; clear H; have p1244 : 0 ≤ ((ji9) : Int) := of_decide_eq_true zb10; have q1244 : (ji9) < (l0.length : Int) := of_decide_eq_true zb10; obtain ⟨ad1244, e1244, hx1244_0, hx1244_1, hx1244_2, hx1244_3, hx1244_4, hx1244_5, hx1244_6, hx1244_7⟩ := at_T41 HR0.out (ji9) p1244 q1244
           cases e1244
           replace hx1244_0 := (HB.out.cell (World.block_lt_of_cell? w _ hx1244_0)).trans hx1244_0; replace hx1244_1 := (HB.out.cell (World.block_lt_of_cell? w _ hx1244_1)).trans hx1244_1; replace hx1244_2 := (HB.out.cell (World.block_lt_of_cell? w _ hx1244_2)).trans hx1244_2; replace hx1244_3 := (HB.out.cell (World.block_lt_of_cell? w _ hx1244_3)).trans hx1244_3; replace hx1244_4 := (HB.out.cell (World.block_lt_of_cell? w _ hx1244_4)).trans hx1244_4; replace hx1244_5 := (HB.out.cell (World.block_lt_of_cell? w _ hx1244_5)).trans hx1244_5; replace hx1244_6 := (HB.out.cell (World.block_lt_of_cell? w _ hx1244_6)).trans hx1244_6; replace hx1244_7 := (HB.out.cell (World.block_lt_of_cell? w _ hx1244_7)).trans hx1244_7; replace p1244 := eq_true p1244; replace q1244 := eq_true q1244
           go_wp2_with (first | ((with_reducible refine gate_callee (f := 165) rfl ?_); refine goesL_ (some 29) rfl rfl Try.func165 zb14 rfl #[.slice (some ad1244) l0.length c0, .int .i64 ((rd_T41 l0 (ji9)).f6)] rfl (by (try simp only [List.map_toArray, List.map_cons, List.map_nil]); first | done | (simp only [hji9]; rfl) | rfl | (simp only [List.length_drop, List.length_take]; rfl)) ?_; (with_reducible refine (spec_l11Back.calls k3 _ _ l0 ((rd_T41 l0 (ji9)).f6) t1245 _ ?side1 ?side2 A12.out).mono ?_); (case side1 => exact zb50); (case side2 => exact HC0.out); rintro e w13 ⟨rfl, hb⟩; refine ⟨_, rfl, ?_⟩; replace HB := az (below_step zb7 hb); (try clear hb); (try clear hb2); (try clear hk); (try clear hi)))
           go_roundg k3
           case measure => have := HK1.out; have := HJ3.out; have := HK3.out; omega
           case rel => exact ⟨(wrap64 (x3_3 + 1)), (t1245), zb15, zb15, H', ⟨by have := HK1.out; have := HJ3.out; have := HK3.out; omega⟩, ⟨zb7⟩⟩
          ·rw [if_neg c11] at H
           exact absurd H (by simp)
         ·rw [if_neg c10] at H
          exact absurd H (by simp)
        ·rw [if_neg c8] at H
         have c8b0 : decide (0 < x5_3) = false := decide_eq_false c8; clear c8; have H' := az H; clear H
         go_wp2
         go_roundg k3
         case measure => have := HK1.out; have := HJ3.out; have := HK3.out; omega
         case rel => exact ⟨(x3_3), (wrap64 (x4_1 + 1)), zb15, zb15, H', ⟨by have := HK1.out; have := HJ3.out; have := HK3.out; omega⟩, ⟨zb7⟩⟩
   ·rw [if_neg c2] at H
    have c2b0 : decide (x4_1 ≤ 3) = false := decide_eq_false c2; clear c2; obtain rfl := Option.some.inj H
    go_wp2
    go_ret
    exact ⟨zb11, zb7⟩
end Go.Proofs.Ytcefiblpnegepaa.Pr
